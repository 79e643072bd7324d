-- written by xprint.py, an own overlay over the kit's print; not trusted: Lean checks it
import Derived.Test.YtljjgcfifhfhdaaX0
import Derived.Test.YtljjgcfifhfhdaaX3
import Derived.Test.YtljjgcfifhfhdaaX5
import Derived.Test.YtljjgcfifhfhdaaX6
import Derived.Test.YtljjgcfifhfhdaaX7
namespace Go.Proofs.Ytljjgcfifhfhdaa.X
open Go.RowKit Go.Proofs.YtljjgcfifhfhdaaW.PrintWords Go.Proofs.YtljjgcfifhfhdaaW.PrintLast Go.Proofs.YtljjgcfifhfhdaaW.PrintMore
attribute [local go_sem] max2_int min2_int max_two min_two max_three min_three max_four min_four   -- for this text's walks alone
set_option linter.unusedVariables false
set_option linter.unusedSimpArgs false

/-! ### cue_Fit: function 13 -/
def cue_Fit.q (x : S40 × S40) : Int := (x.2.f1 - x.1.f1) / (x.2.f0 - x.1.f0)
def cue_Fit.rm (x : S40 × S40) : Int := (x.2.f1 - x.1.f1) % (x.2.f0 - x.1.f0)
/-- The tempos of a pair. -/
def cue_Fit.seg (x : S40 × S40) : List S45 := if 0 < cue_Fit.rm x then [⟨x.1.f0, cue_Fit.q x + 1⟩, ⟨x.1.f0 + cue_Fit.rm x, cue_Fit.q x⟩] else [⟨x.1.f0 + cue_Fit.rm x, cue_Fit.q x⟩]
def cue_Fit.oks (x : S40 × S40) : Bool := decide (1 ≤ cue_Fit.q x ∧ (if 0 < cue_Fit.rm x then cue_Fit.q x + 1 else cue_Fit.q x) ≤ 4194304)
def cue_Fit.segs (l : List (S40 × S40)) : List S45 := l.flatMap cue_Fit.seg
def cue_Fit.allo (l : List (S40 × S40)) : Bool := l.all cue_Fit.oks
theorem cue_Fit.allo_snoc (l : List (S40 × S40)) (q : S40 × S40) : cue_Fit.allo (l ++ [q]) = (cue_Fit.allo l && cue_Fit.oks q) := by simp [cue_Fit.allo]
theorem cue_Fit.segs_snoc (l : List (S40 × S40)) (q : S40 × S40) : cue_Fit.segs (l ++ [q]) = cue_Fit.segs l ++ cue_Fit.seg q := by simp [cue_Fit.segs]
def cue_Fit.ps (l : List S40) : List (S40 × S40) := cue_Check.upto (cue_Check.pr l) (l.length - 1)
def cue_Fit.res (l : List S40) : List S45 × Int :=
  if cue_Check.chk l = 0 then (if cue_Fit.allo (cue_Fit.ps l) = true then (if 64 < (cue_Fit.segs (cue_Fit.ps l)).length then ([], 3) else (cue_Fit.segs (cue_Fit.ps l), 0)) else ([], 1)) else ([], cue_Check.chk l)
def cue_Fit.f (l0 : List S40) : Option (List S45 × Int) := some (cue_Fit.res l0)
theorem cue_Fit.floor_f (a b : Int) (h0 : 0 < b) (h1 : b ≤ 8192) (h2 : 0 ≤ a) (h3 : a ≤ 1099511627776) : num_Floor.f 5 a b = some (a / b, a % b, 0) := by
  have e1 : Int.tdiv a b = a / b := Int.tdiv_eq_ediv_of_nonneg h2
  have e2 : Int.tmod a b = a % b := Int.tmod_eq_emod_of_nonneg h2
  have q0 : 0 ≤ a / b := Int.ediv_nonneg h2 (by omega)
  have q1 : a / b ≤ a := Int.ediv_le_self _ h2
  have r0 : 0 ≤ a % b := Int.emod_nonneg _ (by omega)
  have hs : num_small.f 5 [a, b] = some true := by
    unfold num_small.f
    rw [show (([a, b] : List Int).length : Int) = 2 from rfl]
    have w1 : wrap64 (0 + 1) = 1 := by unfold wrap64; omega
    have w2 : wrap64 (1 + 1) = 2 := by unfold wrap64; omega
    have d0 : rd [a, b] 0 = a := rfl
    have d1 : rd [a, b] 1 = b := rfl
    simp only [num_small.l0, List.length_cons, List.length_nil, d0, d1, w1, w2]
    rw [if_pos (by omega), if_pos (by omega), if_pos (by omega), if_neg (by omega), if_neg (by omega), if_pos (by omega), if_pos (by omega), if_pos (by omega), if_neg (by omega), if_neg (by omega), if_neg (by omega)]
  have hd : num_divide.f a b = some (a / b, a % b) := by
    unfold num_divide.f
    rw [if_neg (by omega), e1, e2, if_neg (by omega), show wrap64 (a / b) = a / b by unfold wrap64; omega]
  unfold num_Floor.f
  rw [hs, Option.bind_some, if_pos rfl, if_neg (by omega), if_neg (by omega), hd, Option.bind_some]
def cue_Fit.cells (l : List S45) : List Value := l.flatMap fun t => [.int .i64 t.f0, .int .i64 t.f1]
theorem cue_Fit.cells_length (l : List S45) : (cue_Fit.cells l).length = l.length * 2 := by
  induction l with
  | nil => rfl
  | cons x l ih => unfold cue_Fit.cells at ih ⊢; rw [List.flatMap_cons, List.length_append, ih]; simp; omega
theorem cue_Fit.cells_append (l m : List S45) : cue_Fit.cells (l ++ m) = cue_Fit.cells l ++ cue_Fit.cells m := by simp [cue_Fit.cells]
theorem cue_Fit.reps (w : World) (base : Nat) (ok : Nat → Prop) : ∀ l : List S45, Reps (k45.M w base ok) 2 l (cue_Fit.cells l)
  | [] => Reps.none _ _
  | x :: l => Reps.c2 (k45_mkM w base ok x) (cue_Fit.reps w base ok l)
theorem cue_Fit.own_R {w : World} {base : Nat} {v : Value} {l : List S45} (h : w.ownsRow base 45 2 v l.length (cue_Fit.cells l)) : Kd.R k45 45 w base (fun _ => True) v l :=
  ⟨fun _ _ => trivial, cue_Fit.cells l, h, cue_Fit.reps _ _ _ l⟩
theorem cue_Fit.seg_length (x : S40 × S40) : (cue_Fit.seg x).length ≤ 2 := by unfold cue_Fit.seg; split <;> simp
theorem cue_Fit.segs_length (l : List (S40 × S40)) : (cue_Fit.segs l).length ≤ 2 * l.length := by
  induction l with
  | nil => simp [cue_Fit.segs]
  | cons x l ih => have := cue_Fit.seg_length x; unfold cue_Fit.segs at ih ⊢; rw [List.flatMap_cons, List.length_append, List.length_cons]; omega
/-- What Check answers 0 on. -/
theorem cue_Fit.chk0 {l : List S40} (h : cue_Check.chk l = 0) : 2 ≤ l.length ∧ l.length ≤ 64 ∧ l.all cue_Check.okc = true ∧ (l.getD 0 z40).f0 = 0 ∧ cue_Check.allg (cue_Fit.ps l) = true := by
  unfold cue_Check.chk at h
  by_cases h1 : l.length < 2
  · rw [if_pos h1] at h; cases h
  rw [if_neg h1] at h
  by_cases h2 : 64 < l.length
  · rw [if_pos h2] at h; cases h
  rw [if_neg h2] at h
  by_cases h3 : l.all cue_Check.okc = true
  · rw [if_pos h3] at h
    by_cases h4 : (l.getD 0 z40).f0 = 0
    · rw [if_pos h4] at h
      by_cases h5 : cue_Check.allg (cue_Check.upto (cue_Check.pr l) (l.length - 1)) = true
      · exact ⟨by omega, by omega, h3, h4, h5⟩
      · rw [if_neg h5] at h; cases h
    · rw [if_neg h4] at h; cases h
  · rw [if_neg h3] at h; cases h
/-- A pair that may come. -/
def cue_Fit.fair (x : S40 × S40) : Prop := (0 ≤ x.1.f0 ∧ x.1.f0 < x.2.f0 ∧ x.2.f0 ≤ 8192) ∧ 0 ≤ x.1.f1 ∧ x.1.f1 < x.2.f1 ∧ x.2.f1 ≤ 1099511627776
theorem cue_Fit.fair_at {l : List S40} (h : cue_Check.chk l = 0) (k : Nat) (hk : k < l.length - 1) : cue_Fit.fair (cue_Check.pr l k) := by
  obtain ⟨h2, h64, ha, _, hg⟩ := cue_Fit.chk0 h
  obtain ⟨a0, a1, a2, a3⟩ := cue_Check.okc_at ha (show k < l.length by omega)
  obtain ⟨b0, b1, b2, b3⟩ := cue_Check.okc_at ha (show k + 1 < l.length by omega)
  unfold cue_Check.allg cue_Fit.ps at hg
  rw [List.all_eq_true] at hg
  have := hg (cue_Check.pr l k) (List.mem_map.2 ⟨k, List.mem_range.2 hk, rfl⟩)
  unfold cue_Check.good at this
  have := of_decide_eq_true this
  exact ⟨⟨a0, this.1, b1⟩, a2, this.2, b3⟩
theorem cue_Fit.blk {w w1 : World} {g : Nat} {o : Obj} (h : w.heap[g]? = some o) (hb : Below w.heap.size w w1) : w1.heap[g]? = some o := (hb.block g (Array.getElem?_eq_some_iff.1 h).1).trans h
theorem cue_Fit.other {w : World} {g g' t : Nat} {u : Value} (h : w.heap[g]? = some (.cells #[u] t (0, 0))) (hne : g ≠ g') (v : Value) : (w.setCell ⟨g', 0, none⟩ v).cell? ⟨g, 0, none⟩ = some u ∧ (w.setCell ⟨g', 0, none⟩ v).frozen? ⟨g, 0, none⟩ = false := by
  have h' : (w.setCell ⟨g', 0, none⟩ v).heap[g]? = some (.cells #[u] t (0, 0)) := (Below.heap_setCell w ⟨g', 0, none⟩ v g hne).trans h
  exact ⟨(blk_cell h' 0).trans rfl, blk_frozen h' 0⟩
theorem cue_Fit.two {w : World} {g g' t t' : Nat} {u u' : Value} (h : w.heap[g]? = some (.cells #[u] t (0, 0))) (h' : w.heap[g']? = some (.cells #[u'] t' (0, 0))) (hne : g' ≠ g) (v v' : Value) :
    ((w.setCell ⟨g, 0, none⟩ v).setCell ⟨g', 0, none⟩ v').cell? ⟨g, 0, none⟩ = some v ∧ ((w.setCell ⟨g, 0, none⟩ v).setCell ⟨g', 0, none⟩ v').cell? ⟨g', 0, none⟩ = some v' := by
  have a := cue_Check.heap_set h 0 v
  have a2 : ((w.setCell ⟨g, 0, none⟩ v).setCell ⟨g', 0, none⟩ v').heap[g]? = some (.cells (#[u].setIfInBounds 0 v) t (0, 0)) := (Below.heap_setCell _ ⟨g', 0, none⟩ v' g (fun e => hne e.symm)).trans a
  have b : (w.setCell ⟨g, 0, none⟩ v).heap[g']? = some (.cells #[u'] t' (0, 0)) := (Below.heap_setCell w ⟨g, 0, none⟩ v g' hne).trans h'
  have b2 := cue_Check.heap_set b 0 v'
  exact ⟨(blk_cell a2 0).trans rfl, (blk_cell b2 0).trans rfl⟩
theorem cue_Fit.own_bel {w w1 : World} {base : Nat} {e : TypeId} {size n : Nat} {v : Value} {xs : List Value} (h : w.ownsRow base e size v n xs) (hb : Below w.heap.size w w1) : w1.ownsRow base e size v n xs :=
  own_move h (fun k hk => hb.block k (own_lt h k hk))
theorem cue_Fit.keeps_bel {w w1 : World} (hb : Below w.heap.size w w1) : KeepsOthers w w1 := ⟨hb.size, fun k o hk _ => (hb.block k (Array.getElem?_eq_some_iff.1 hk).1).trans hk⟩
theorem cue_Fit.app_other {W w1 : World} {n0 gO k : Nat} {v v' : Value} {xs : List Value} {tmp : Obj} {g t : Nat} {cs : Array Value} (hrow : W.ownsRow n0 45 2 v k xs) (hgrow : (W.alloc tmp).grownBy w1 v.ownBlock)
    (hb : W.heap[g]? = some (.cells cs t (0, 0))) (ht : t ≠ 45) (hg : g ≠ gO) : (w1.setCell ⟨gO, 0, none⟩ v').heap[g]? = some (.cells cs t (0, 0)) := by
  refine (Below.heap_setCell w1 ⟨gO, 0, none⟩ v' g hg).trans ((hgrow.block g (by simp; have := (Array.getElem?_eq_some_iff.1 hb).1; omega) ?_).trans (blk_alloc hb tmp))
  intro e
  obtain ⟨cells, hc⟩ := own_typed hrow g e.symm
  rw [hb] at hc
  injection hc with hc
  injection hc with _ hc
  exact ht hc
theorem cue_Fit.new2 (W : World) (a b : Value) (t : TypeId) (g : Nat) (hg : g = W.heap.size) : ∀ j u, [a, b][j]? = some u → (W.alloc (.cells #[a, b] t)).cell? ((⟨g, 0, none⟩ : Addr).add j) = some u := by
  subst hg
  intro j u h
  match j, h with
  | 0, h => exact (blk_cell (blk_new W (.cells #[a, b] t)) 0).trans h
  | 1, h => exact (blk_cell (blk_new W (.cells #[a, b] t)) 1).trans h
  | j + 2, h => simp at h
theorem cue_Fit.ownBox {β : Type} (B g : Nat) (t : TypeId) (cs : Array Value) : OwnFrom B (fun (_ : β) W => W.heap[g]? = some (.cells cs t (0, 0))) := fun _ _ _ _ h hg hr => (grownBy_keeps_cells hg (fun r e => (hr r e).2) h rfl).trans h
theorem cue_Fit.ownPure {β : Type} (B : Nat) (p : β → Prop) : OwnFrom B (fun s (_ : World) => p s) := fun _ _ _ _ hs _ _ => hs
theorem cue_Fit.stopped {W : World} {g2 g3 : Nat} (A2 : W.heap[g2]? = some (.cells #[.slice none 0 0] 27 (0, 0))) (A3 : W.heap[g3]? = some (.cells #[.int .i64 0] 23 (0, 0))) (hne : g3 ≠ g2) :
    ((W.setCell ⟨g2, 0, none⟩ (.slice none 0 0)).setCell ⟨g3, 0, none⟩ (.int .i64 1)).heap[g2]? = some (.cells #[.slice none 0 0] 27 (0, 0)) ∧ ((W.setCell ⟨g2, 0, none⟩ (.slice none 0 0)).setCell ⟨g3, 0, none⟩ (.int .i64 1)).heap[g3]? = some (.cells #[.int .i64 1] 23 (0, 0)) := by
  have a := cue_Check.heap_set A2 0 (.slice none 0 0)
  have b := (Below.heap_setCell W ⟨g2, 0, none⟩ (.slice none 0 0) g3 hne).trans A3
  exact ⟨(Below.heap_setCell _ ⟨g3, 0, none⟩ (.int .i64 1) g2 (fun e => hne e.symm)).trans a, cue_Check.heap_set b 0 (.int .i64 1)⟩
theorem cue_Fit.own_set {w : World} {base : Nat} {e : TypeId} {size n : Nat} {v : Value} {xs : List Value} (h : w.ownsRow base e size v n xs) {g t : Nat} {cs : Array Value} (hb : w.heap[g]? = some (.cells cs t (0, 0))) (ht : t ≠ e) (u : Value) : (w.setCell ⟨g, 0, none⟩ u).ownsRow base e size v n xs :=
  ownsRow_setCell_other h (fun hk => by
    obtain ⟨cells, hc⟩ := own_typed h g hk
    rw [hb] at hc
    injection hc with hc
    injection hc with _ hc
    exact ht hc) u
theorem cue_Fit.two_h {w : World} {g g' t t' : Nat} {u u' : Value} (h : w.heap[g]? = some (.cells #[u] t (0, 0))) (h' : w.heap[g']? = some (.cells #[u'] t' (0, 0))) (hne : g' ≠ g) (v v' : Value) :
    ((w.setCell ⟨g, 0, none⟩ v).setCell ⟨g', 0, none⟩ v').heap[g]? = some (.cells #[v] t (0, 0)) ∧ ((w.setCell ⟨g, 0, none⟩ v).setCell ⟨g', 0, none⟩ v').heap[g']? = some (.cells #[v'] t' (0, 0)) := by
  have a := cue_Check.heap_set h 0 v
  have b := (Below.heap_setCell w ⟨g, 0, none⟩ v g' hne).trans h'
  exact ⟨(Below.heap_setCell _ ⟨g', 0, none⟩ v' g (fun e => hne e.symm)).trans a, cue_Check.heap_set b 0 v'⟩
theorem cue_Fit.own_slice {w : World} {base : Nat} {e : TypeId} {size n : Nat} {v : Value} {xs : List Value} (h : w.ownsRow base e size v n xs) : ∃ A c, v = .slice A n c := by
  rcases h.2 with ⟨rfl, rfl⟩ | ⟨g, cap, _, rfl, _⟩
  · exact ⟨none, 0, rfl⟩
  · exact ⟨_, _, rfl⟩
def cue_Fit.kp (n0 Bs : Nat) (A B : World) : Prop := Below n0 A B ∧ ∀ o, A.heap[Bs]? = some o → B.heap[Bs]? = some o
theorem cue_Fit.kp_c {n0 Bs : Nat} (A B : World) (h : cue_Fit.kp n0 Bs A B) (v : Value) (hv : A.cell? ⟨Bs, 0, none⟩ = some v) : B.cell? ⟨Bs, 0, none⟩ = some v := by
  obtain ⟨o, ho, _⟩ := cells_of_cell hv
  exact (World.cell?_of_block ((h.2 o ho).trans ho.symm)).trans hv
theorem cue_Fit.kp_b {n0 Bs : Nat} {w : World} (hn : n0 ≤ w.heap.size) (hb : Bs < w.heap.size) (W : World) (l : Nat) (o o' : Obj) (hl : w.heap.size ≤ l) (h : W.heap[l]? = some o) (hc : o.isCells = false) (hw : o.isWalk = false) : cue_Fit.kp n0 Bs W (W.putObj l o') :=
  ⟨belowK_b hn W l o o' hl h hc hw, fun q hq => (World.putObj_heap_other (by omega)).trans hq⟩
abbrev cue_Fit.T : Type := { x : S40 × S40 // cue_Fit.fair x }
def cue_Fit.item (l : List S40) (h : cue_Check.chk l = 0) (k : Nat) : cue_Fit.T := if hk : k < l.length - 1 then ⟨cue_Check.pr l k, cue_Fit.fair_at h k hk⟩ else ⟨cue_Check.pr l 0, cue_Fit.fair_at h 0 (by have := (cue_Fit.chk0 h).1; omega)⟩
theorem cue_Fit.items (l : List S40) (h : cue_Check.chk l = 0) : ∀ k, k ≤ l.length - 1 → (cue_Check.upto (cue_Fit.item l h) k).map Subtype.val = cue_Check.upto (cue_Check.pr l) k
  | 0, _ => rfl
  | k + 1, hk => by
    rw [cue_Check.upto_succ, cue_Check.upto_succ, List.map_append, cue_Fit.items l h k (by omega)]
    unfold cue_Fit.item
    rw [dif_pos (by omega)]
    rfl
def cue_Fit.raw (l : List cue_Fit.T) : List (S40 × S40) := l.map Subtype.val
theorem cue_Fit.raw_snoc (l : List cue_Fit.T) (x : cue_Fit.T) : cue_Fit.raw (l ++ [x]) = cue_Fit.raw l ++ [x.1] := by simp [cue_Fit.raw]
section
attribute [local go_sem] Oper.semAt_some
set_option maxHeartbeats 8000000 in
set_option maxRecDepth 100000 in
theorem cue_Fit.walk_bad (A0 : Option Addr) (c0 : Nat) (l : List S40) (w : World) (hC : Kd.C k40 w A0 l.length l) (hc0 : l.length ≤ c0) (hne : cue_Check.chk l ≠ 0) :
    Calls Try.prog 13 #[.slice A0 l.length c0] w fun e w' => e = .returned (.tuple #[.slice none 0 0, .int .i64 (cue_Check.chk l)]) ∧ Below w.heap.size w w' := by
  have HC := Aside0.mk hC
  have HB := Aside0.mk (Below.refl w.heap.size w)
  have HF : cue_Check.f l = some (cue_Check.chk l) := rfl
  generalize cue_Check.chk l = z at HF hne ⊢
  have hz1 : (z == 0) = false := by simpa using hne
  have hz2 : (z != 0) = true := by simpa using hne
  clear hC
  go_enter Try.func13, Try.ntmps13
  go_wp2_with (first
    | ((with_reducible refine gate_dst (N := 2) rfl ?_); refine box_event ?hg (N := 2) ?hd (cs := #[.slice none 0 0]) (t := 27) ?hr ?_; (case hd => rfl); (case hg => rfl); (case hr => first | (go_simp; done) | (go_simp; rfl)); intro g2 hg2 w1 hbox hb; have HB1 := Aside0.mk (below_step HB.out hb); have HX2 := Aside0.mk hbox; have HG2 := Aside0.mk hg2; clear hb hbox hg2)
    | ((with_reducible refine gate_dst (N := 3) rfl ?_); refine box_event ?hg (N := 3) ?hd (cs := #[.int .i64 0]) (t := 23) ?hr ?_; (case hd => rfl); (case hg => rfl); (case hr => first | (go_simp; done) | (go_simp; rfl)); intro g3 hg3 w2 hbox hb; have HB2 := Aside0.mk (below_step HB1.out hb); have HX3 := Aside0.mk hbox; have HX22 := Aside0.mk (cue_Fit.blk HX2.out hb); have HG3 := Aside0.mk hg3; clear hb hbox hg3)
    | (go_at_call 10; refine (cue_Check.calls _ _ _ _ _ (Kd.C_below HC.out HB2.out) hc0 HF).mono ?_; rintro e w3 ⟨rfl, hb⟩; have HB3 := Aside0.mk (below_step HB2.out hb); have HY2 := Aside0.mk (cue_Fit.blk HX22.out hb); have HY3 := Aside0.mk (cue_Fit.blk HX3.out hb);
        have y2 : w3.cell? ⟨g2, 0, none⟩ = some (.slice none 0 0) := (blk_cell HY2.out 0).trans rfl; have f2 : w3.frozen? ⟨g2, 0, none⟩ = false := blk_frozen HY2.out 0;
        have y3 := cue_Fit.other HY3.out (show g3 ≠ g2 by rintro rfl; have h1 := HX22.out.symm.trans HX3.out; simp at h1) (.slice none 0 0); obtain ⟨y3, f3⟩ := y3; clear hb))
  have h2 : g3 ≠ g2 := by rintro rfl; have h1 := HX22.out.symm.trans HX3.out; simp at h1
  have h3 := cue_Fit.two HY2.out HY3.out h2 (.slice none 0 0) (.int .i64 z)
  obtain ⟨c2, c3⟩ := h3
  refine bodyPost_ret (v := .tuple #[.slice none 0 0, .int .i64 z]) (by simp [results, Try.f13, go_sem, c2, c3]) rfl ⟨rfl, ?_⟩
  exact (HB3.out.setCell (p := ⟨g2, 0, none⟩) (by rw [HG2.out]; exact Nat.le_refl _) _).setCell (p := ⟨g3, 0, none⟩) (by rw [HG3.out]; exact HB1.out.size) _
set_option maxHeartbeats 8000000 in
set_option maxRecDepth 100000 in
theorem cue_Fit.walk_ok (ad : Addr) (c0 : Nat) (l : List S40) (w : World) (hC : Kd.C k40 w (some ad) l.length l) (hc0 : l.length ≤ c0) (h : cue_Check.chk l = 0) :
    Calls Try.prog 13 #[.slice (some ad) l.length c0] w fun e w' => ∃ v0_, e = .returned (.tuple #[v0_, .int .i64 (cue_Fit.res l).2]) ∧ Kd.R k45 45 w' w.heap.size (fun _ => True) v0_ (cue_Fit.res l).1 ∧ Below w.heap.size w w' := by
  have HC := Aside0.mk hC
  have HB := Aside0.mk (Below.refl w.heap.size w)
  have HF : cue_Check.f l = some 0 := by unfold cue_Check.f; rw [h]
  obtain ⟨hl2, hl64, _, _, _⟩ := cue_Fit.chk0 h
  have HR := Aside0.mk (show cue_Fit.res l = (if cue_Fit.allo (cue_Fit.ps l) = true then (if 64 < (cue_Fit.segs (cue_Fit.ps l)).length then ([], 3) else (cue_Fit.segs (cue_Fit.ps l), 0)) else ([], 1)) by unfold cue_Fit.res; rw [if_pos h])
  generalize cue_Fit.res l = rs at HR ⊢
  clear hC
  obtain ⟨i0, hi, hz0, hz1, hz2⟩ := info_parts info45
  refine (callsIn_wide (n := 9)).1 (callsIn_of_wp_marks Try.func13 rfl trivial ?_ rfl)
  refine wpIn_wide.2 ?_
  simp only [Try.ntmps13, List.size_toArray, List.length_cons, List.length_nil, Nat.reduceAdd, Nat.reduceSub, Array.replicate_succ, Array.replicate_zero, List.push_toArray, List.append_toArray, List.nil_append, List.cons_append]
  go_wp2_with (first
    | ((with_reducible refine gate_dst (N := 2) rfl ?_); refine box_event ?hg (N := 2) ?hd (cs := #[.slice none 0 0]) (t := 27) ?hr ?_; (case hd => rfl); (case hg => rfl); (case hr => first | (go_simp; done) | (go_simp; rfl)); intro g2 hg2 w1 hbox hb; have HB1 := Aside0.mk (below_step HB.out hb); have HX2 := Aside0.mk hbox; have HG2 := Aside0.mk hg2; clear hb hbox hg2)
    | ((with_reducible refine gate_dst (N := 3) rfl ?_); refine box_event ?hg (N := 3) ?hd (cs := #[.int .i64 0]) (t := 23) ?hr ?_; (case hd => rfl); (case hg => rfl); (case hr => first | (go_simp; done) | (go_simp; rfl)); intro g3 hg3 w2 hbox hb; have HB2 := Aside0.mk (below_step HB1.out hb); have HX3 := Aside0.mk hbox; have HX22 := Aside0.mk (cue_Fit.blk HX2.out hb); have HG3 := Aside0.mk hg3; clear hb hbox hg3)
    | (go_at_call 10; refine (cue_Check.calls _ _ _ _ _ (Kd.C_below HC.out HB2.out) hc0 HF).mono ?_; rintro e w3 ⟨rfl, hb⟩; have HB3 := Aside0.mk (below_step HB2.out hb); have HY2 := Aside0.mk (cue_Fit.blk HX22.out hb); have HY3 := Aside0.mk (cue_Fit.blk HX3.out hb); have HS3 := Aside0.mk hb.size; clear hb)
    | ((with_reducible refine gate_dst (N := 5) rfl ?_); refine box_event ?hg (N := 5) ?hd (cs := #[.slice none 0 0]) (t := 27) ?hr ?_; (case hd => rfl); (case hg => rfl); (case hr => first | (go_simp; done) | (go_simp; rfl)); intro gO hgO w4 hbox hb; have HB4 := Aside0.mk (below_step HB3.out hb); have HXO := Aside0.mk hbox; have HZ2 := Aside0.mk (cue_Fit.blk HY2.out hb); have HZ3 := Aside0.mk (cue_Fit.blk HY3.out hb); have HGO := Aside0.mk hgO; clear hb hbox hgO)
    | (go_at_call 22; refine (cue_Check.pairs_calls _ _ _ _).mono ?_; rintro e w' ⟨rfl, rfl⟩))
  have h0B : w.heap.size ≤ gO := by rw [HGO.out]; exact HB3.out.size
  have hO4 : gO < w4.heap.size := (Array.getElem?_eq_some_iff.1 HXO.out).1
  have hb5 : Below w.heap.size w (w4.alloc (.cells #[.slice (some ad) l.length c0] 22)) := HB4.out.alloc HB4.out.size _
  have h2O : g2 ≠ gO := by have := (Array.getElem?_eq_some_iff.1 HY2.out).1; rw [HGO.out]; omega
  have h3O : g3 ≠ gO := by have := (Array.getElem?_eq_some_iff.1 HY3.out).1; rw [HGO.out]; omega
  have h23 : g3 ≠ g2 := by rintro rfl; have h1 := HX22.out.symm.trans HX3.out; simp at h1
  have h2w : w.heap.size ≤ g2 := by rw [HG2.out]; exact Nat.le_refl _
  have h3w : w.heap.size ≤ g3 := by rw [HG3.out]; exact HB1.out.size
  refine (wpIn_wide (n := 9)).1 ?_
  refine wpIn_rangeFunc_ownH rfl (by omega) (gf := 30) (lb := #[.pointer (some ⟨w4.heap.size, 0, none⟩)]) rfl trivial (Go.Proofs.enters_of Try.func30 (by kernel_rfl) rfl)
    (cue_Check.pairs_stopsK (fun x : cue_Fit.T => cue_Check.enc x.1) (cue_Fit.item l h) (cue_Fit.kp w.heap.size w4.heap.size) (fun A => ⟨Below.refl _ A, fun _ h => h⟩) (fun h k => ⟨h.1.trans k.1, fun o ho => k.2 o (h.2 o ho)⟩) (fun A => ⟨below_drew1 (Below.refl _ A), fun _ h => h⟩)
      8 w4.heap.size ad c0 l hl64 (fun k hk => by unfold cue_Fit.item; rw [dif_pos (by omega)]) w _ (fun _ _ h => h.1) (fun A B h v hv => cue_Fit.kp_c A B h v hv) HC.out hb5 (by simp) (by simp))
    (fun h k => ⟨h.1.trans k.1, fun o ho => k.2 o (h.2 o ho)⟩) (cue_Fit.kp_b (by have := hb5.size; exact this) (by simp)) (Below.refl _ _) (fun _ => rfl)
    (fun pre W => ((cue_Fit.allo (cue_Fit.raw pre) = true ∧ W.heap[g2]? = some (.cells #[.slice none 0 0] 27 (0, 0))) ∧ (W.heap[g3]? = some (.cells #[.int .i64 0] 23 (0, 0)) ∧ W.heap[w4.heap.size]? = some (.cells #[.slice (some ad) l.length c0] 22 (0, 0)))) ∧
      (∃ v, Boxed W gO 27 v ∧ W.ownsRow w.heap.size 45 2 v (cue_Fit.segs (cue_Fit.raw pre)).length (cue_Fit.cells (cue_Fit.segs (cue_Fit.raw pre))) ∧ True) ∧ Below w.heap.size (w4.alloc (.cells #[.slice (some ad) l.length c0] 22)) W)
    (fun c pre W => ((c = .ret ∧ cue_Fit.allo (cue_Fit.raw pre) = false) ∧ W.heap[g2]? = some (.cells #[.slice none 0 0] 27 (0, 0))) ∧ W.heap[g3]? = some (.cells #[.int .i64 1] 23 (0, 0)) ∧ Below w.heap.size (w4.alloc (.cells #[.slice (some ad) l.length c0] 22)) W)
    (OwnFrom.and (OwnFrom.and (OwnFrom.and (cue_Fit.ownPure _ _) (cue_Fit.ownBox _ _ _ _)) (OwnFrom.and (cue_Fit.ownBox _ _ _ _) (cue_Fit.ownBox _ _ _ _))) (OwnFrom.and (Own.from (holdsRow_own w.heap.size gO 27 45 2 (fun pre => (cue_Fit.segs (cue_Fit.raw pre)).length) (fun pre => cue_Fit.cells (cue_Fit.segs (cue_Fit.raw pre))) (fun _ _ => True)) _) (ownFrom_below (by have := hb5.size; exact this) (by have := hb5.size; exact this))))
    (fun c => OwnFrom.and (OwnFrom.and (cue_Fit.ownPure _ _) (cue_Fit.ownBox _ _ _ _)) (OwnFrom.and (cue_Fit.ownBox _ _ _ _) (ownFrom_below (by have := hb5.size; exact this) (by have := hb5.size; exact this))))
    ⟨⟨⟨rfl, blk_alloc HZ2.out _⟩, blk_alloc HZ3.out _, blk_new _ _⟩, ⟨_, blk_alloc HXO.out _, World.ownsRow_nil _ _ _ _, trivial⟩, Below.refl _ _⟩
    (fun q a' W => ∃ ga gb : Nat, a' = { tmps := #[.slice (some ad) l.length c0, undef, .pointer (some ⟨g2, 0, none⟩), .pointer (some ⟨g3, 0, none⟩), .int .i64 0, .pointer (some ⟨gO, 0, none⟩), .pointer (some ⟨ga, 0, none⟩), .pointer (some ⟨gb, 0, none⟩), undef, undef, undef, undef,
          .slice (some ad) l.length c0, .int .i64 0, .int .i64 0, .bool false, undef, .slice (some ad) l.length c0, .func (.func 30) #[] #[.pointer (some ⟨w4.heap.size, 0, none⟩)],
          .agg #[.int .i64 q.1.1.f0, .int .i64 q.1.1.f1], .agg #[.int .i64 q.1.2.f0, .int .i64 q.1.2.f1], undef, undef, undef, undef, undef, undef, undef, undef, undef, undef, undef, undef, undef, undef, undef, undef, undef, undef, undef, undef, undef, undef, undef, undef, undef, undef, undef, undef, undef, undef, undef, undef, undef, undef, undef, undef, undef, undef, undef, undef, undef, undef, undef, undef, undef, undef, undef], defers := [] } ∧ w4.heap.size + 1 ≤ ga ∧ w4.heap.size + 1 ≤ gb ∧ W.heap[ga]? = some (.cells #[.int .i64 q.1.1.f0, .int .i64 q.1.1.f1] 40 (0, 0)) ∧ W.heap[gb]? = some (.cells #[.int .i64 q.1.2.f0, .int .i64 q.1.2.f1] 40 (0, 0)))
    ?hAx ?assign ?body ?done ?stop
  case hAx =>
    rintro q a' s A B row ⟨ga, gb, e, l1, l2, h1, h2⟩ hg hr
    exact ⟨ga, gb, e, l1, l2, (grownBy_keeps_cells hg (fun r e => (hr r e).2) h1 rfl).trans h1, (grownBy_keeps_cells hg (fun r e => (hr r e).2) h2 rfl).trans h2⟩
  case assign =>
    intro l' pre q W K hI hK
    have hsW : w4.heap.size + 1 ≤ W.heap.size := by have := hI.2.2.size; simpa using this
    unfold cue_Check.enc
    gi_wp2
    have hnW : w.heap.size ≤ W.heap.size := by have := hb5.size; simp at this; omega
    obtain ⟨⟨⟨i1, i2⟩, i3, i4⟩, ⟨v, hv, hrow, _⟩, hBW⟩ := hI
    exact hK _ _ (((KeepsOthers.alloc W _).trans (KeepsOthers.alloc _ _)).from _) ⟨((Below.refl _ W).alloc hnW _).alloc (by simp; omega) _, fun o ho => blk_alloc (blk_alloc ho _) _⟩
      ⟨⟨⟨i1, blk_alloc (blk_alloc i2 _) _⟩, blk_alloc (blk_alloc i3 _) _, blk_alloc (blk_alloc i4 _) _⟩, ⟨v, (hv.alloc _).alloc _, (hrow.alloc _).alloc _, trivial⟩, (hBW.alloc hnW _).alloc (by simp; omega) _⟩
      ⟨W.heap.size, W.heap.size + 1, rfl, hsW, by omega, blk_alloc (blk_new W _) _, by have := blk_new (W.alloc (.cells #[.int .i64 q.1.1.f0, .int .i64 q.1.1.f1] 40)) (.cells #[.int .i64 q.1.2.f0, .int .i64 q.1.2.f1] 40); rwa [World.size_alloc] at this⟩
  case body =>
    rintro l' pre q a' W hl' hrec ⟨⟨⟨i1, i2⟩, i3, i4⟩, ⟨v, hv, hrow, _⟩, hBW⟩ ⟨ga, gb, rfl, l1, l2, h1, h2⟩ hlen
    have hsl := cue_Fit.segs_length (cue_Fit.raw pre)
    have hrl : (cue_Fit.raw pre).length = pre.length := by unfold cue_Fit.raw; rw [List.length_map]
    have hnW : w.heap.size ≤ W.heap.size := by have := hb5.size; have := hBW.size; simp at *; omega
    have e0 : W.cell? ⟨ga, 0, none⟩ = some (.int .i64 q.1.1.f0) := (blk_cell h1 0).trans rfl
    have e1 : W.cell? ⟨ga, 1, none⟩ = some (.int .i64 q.1.1.f1) := (blk_cell h1 1).trans rfl
    have e2 : W.cell? ⟨gb, 0, none⟩ = some (.int .i64 q.1.2.f0) := (blk_cell h2 0).trans rfl
    have e3 : W.cell? ⟨gb, 1, none⟩ = some (.int .i64 q.1.2.f1) := (blk_cell h2 1).trans rfl
    have I1 := Aside0.mk i1
    have I2 := Aside0.mk i2
    have I3 := Aside0.mk i3
    have I4 := Aside0.mk i4
    have HV := Aside0.mk hv
    have HROW := Aside0.mk hrow
    have HBW := Aside0.mk hBW
    have H1 := Aside0.mk h1
    have H2 := Aside0.mk h2
    have hq := q.2
    obtain ⟨⟨f0, f1, f2⟩, f3, f4, f5⟩ := hq
    have hfl : num_Floor.f 5 (q.1.2.f1 - q.1.1.f1) (q.1.2.f0 - q.1.1.f0) = some (cue_Fit.q q.1, cue_Fit.rm q.1, 0) := by
      exact cue_Fit.floor_f _ _ (by omega) (by omega) (by omega) (by omega)
    have hQ0 : 0 ≤ cue_Fit.q q.1 := Int.ediv_nonneg (by omega) (by omega)
    have hQ1 : cue_Fit.q q.1 ≤ 1099511627776 := Int.le_trans (Int.ediv_le_self _ (by omega)) (by omega)
    have hR0 : 0 ≤ cue_Fit.rm q.1 := Int.emod_nonneg _ (by omega)
    have hR1 : cue_Fit.rm q.1 < 8192 := Int.lt_of_lt_of_le (Int.emod_lt_of_pos _ (by omega)) (by omega)
    have HSEG := Aside0.mk (show cue_Fit.seg q.1 = if 0 < cue_Fit.rm q.1 then [⟨q.1.1.f0, cue_Fit.q q.1 + 1⟩, ⟨q.1.1.f0 + cue_Fit.rm q.1, cue_Fit.q q.1⟩] else [⟨q.1.1.f0 + cue_Fit.rm q.1, cue_Fit.q q.1⟩] from rfl)
    have HOK := Aside0.mk (show cue_Fit.oks q.1 = decide (1 ≤ cue_Fit.q q.1 ∧ (if 0 < cue_Fit.rm q.1 then cue_Fit.q q.1 + 1 else cue_Fit.q q.1) ≤ 4194304) from rfl)
    clear i1 i2 i3 i4 hv hrow hBW h1 h2 hrec
    obtain ⟨xa, hxa⟩ : ∃ z, q.1.1.f0 = z := ⟨_, rfl⟩
    obtain ⟨xb, hxb⟩ : ∃ z, q.1.1.f1 = z := ⟨_, rfl⟩
    obtain ⟨ya, hya⟩ : ∃ z, q.1.2.f0 = z := ⟨_, rfl⟩
    obtain ⟨yb, hyb⟩ : ∃ z, q.1.2.f1 = z := ⟨_, rfl⟩
    obtain ⟨Q, hQ⟩ : ∃ z, cue_Fit.q q.1 = z := ⟨_, rfl⟩
    obtain ⟨R, hR⟩ : ∃ z, cue_Fit.rm q.1 = z := ⟨_, rfl⟩
    rw [hxa] at e0 f0 f1 hfl HSEG ⊢
    rw [hxb] at e1 f3 f4 hfl ⊢
    rw [hya] at e2 f1 f2 hfl ⊢
    rw [hyb] at e3 f4 f5 hfl ⊢
    rw [hQ] at hfl hQ0 hQ1 HSEG HOK
    rw [hR] at hfl hR0 hR1 HSEG HOK
    have hfn : Fence.wide.fn 23 := trivial
    have hmx : 300 ≤ maxLen := by unfold maxLen; omega
    have h4O : w4.heap.size ≠ gO := by omega
    have haO : ga ≠ gO := by omega
    by_cases cr : 0 < R
    · by_cases cq : Q < 1
      · gi_wp2_with (first
          | (gi_at_call 23; refine (CallsIn.inRound l' (callsIn_wide.2 (num_Floor.calls 5 _ _ Q R 0 _ hfl))).mono ?_; rintro e W1 ⟨rfl, hb⟩; have J2 := Aside0.mk (cue_Fit.blk I2.out hb); have J3 := Aside0.mk (cue_Fit.blk I3.out hb); have J4 := Aside0.mk (cue_Fit.blk I4.out hb); have JV := Aside0.mk (show Boxed W1 gO 27 v from cue_Fit.blk HV.out hb); have JR := Aside0.mk (cue_Fit.own_bel HROW.out hb); have K1 := Aside0.mk (cue_Fit.blk H1.out hb); have HKO := Aside0.mk (cue_Fit.keeps_bel hb); have HKB := Aside0.mk (hb.mono hnW); have HS := Aside0.mk (Nat.le_trans hnW hb.size); have cO : (W1).cell? ⟨gO, 0, none⟩ = some v := JV.out.cell; have cOf : (W1).frozen? ⟨gO, 0, none⟩ = false := JV.out.frozen; have cA : (W1).cell? ⟨ga, 0, none⟩ = some (.int .i64 xa) := (blk_cell K1.out 0).trans (congrArg (fun z => some (Value.int .i64 z)) hxa); have Y2 : (W1).cell? ⟨g2, 0, none⟩ = some (.slice none 0 0) := (blk_cell J2.out 0).trans rfl; have Y2f : (W1).frozen? ⟨g2, 0, none⟩ = false := blk_frozen J2.out 0; obtain ⟨Y3, Y3f⟩ := cue_Fit.other J3.out h23 (.slice none 0 0); clear hb)
          | (gi_at_builtin; refine wpListIn_append_own _ rfl _ _ 27 rfl w.heap.size 45 i0 _ 2 16 Try.underlying27 hi hz0 hz1 hz2 rfl (by decide) _ _ _ rfl (JR.out.alloc _) ⟨(W1).heap.size, 0, none⟩ 1 1 [.int .i64 xa, .int .i64 (Q + 1)] rfl rfl (cue_Fit.new2 _ _ _ _ _ (by simp)) (by simp [Value.oneCell']) (Nat.le_trans (by omega) hmx) (by omega) (Nat.le_trans HS.out (by simp)) ?_; intro v' W2 hown' hgrow _; obtain ⟨gp, cp, rfl⟩ := ownsRow_succ hown'; obtain ⟨hv1, hv2, hr2, hk2, hb2⟩ := JV.out.appended (by decide) JR.out HS.out h0B hown' hgrow; have J2a := Aside0.mk (cue_Fit.app_other (v' := (.slice (some ⟨gp, 0, none⟩) ((cue_Fit.segs (cue_Fit.raw pre)).length + 1) cp)) JR.out hgrow J2.out (by decide) h2O); have J3a := Aside0.mk (cue_Fit.app_other (v' := (.slice (some ⟨gp, 0, none⟩) ((cue_Fit.segs (cue_Fit.raw pre)).length + 1) cp)) JR.out hgrow J3.out (by decide) h3O); have J4a := Aside0.mk (cue_Fit.app_other (v' := (.slice (some ⟨gp, 0, none⟩) ((cue_Fit.segs (cue_Fit.raw pre)).length + 1) cp)) JR.out hgrow J4.out (by decide) h4O); have K1a := Aside0.mk (cue_Fit.app_other (v' := (.slice (some ⟨gp, 0, none⟩) ((cue_Fit.segs (cue_Fit.raw pre)).length + 1) cp)) JR.out hgrow K1.out (by decide) haO); have JVa := Aside0.mk hv2; have JRa := Aside0.mk hr2; have HKOa := Aside0.mk (HKO.out.trans hk2); have HKBa := Aside0.mk (HKB.out.trans hb2); have HSa := Aside0.mk (Nat.le_trans HS.out hb2.size); have hc1 := hv1.cell; have hf1 := hv1.frozen; clear cO cOf cA Y2 Y2f Y3 Y3f hown' hgrow hv2 hr2 hk2 hb2; have cOa : ((W2.setCell ⟨gO, 0, none⟩ (.slice (some ⟨gp, 0, none⟩) ((cue_Fit.segs (cue_Fit.raw pre)).length + 1) cp))).cell? ⟨gO, 0, none⟩ = some (.slice (some ⟨gp, 0, none⟩) ((cue_Fit.segs (cue_Fit.raw pre)).length + 1) cp) := JVa.out.cell; have cOfa : ((W2.setCell ⟨gO, 0, none⟩ (.slice (some ⟨gp, 0, none⟩) ((cue_Fit.segs (cue_Fit.raw pre)).length + 1) cp))).frozen? ⟨gO, 0, none⟩ = false := JVa.out.frozen; have cAa : ((W2.setCell ⟨gO, 0, none⟩ (.slice (some ⟨gp, 0, none⟩) ((cue_Fit.segs (cue_Fit.raw pre)).length + 1) cp))).cell? ⟨ga, 0, none⟩ = some (.int .i64 xa) := (blk_cell K1a.out 0).trans (congrArg (fun z => some (Value.int .i64 z)) hxa); have Y2a : ((W2.setCell ⟨gO, 0, none⟩ (.slice (some ⟨gp, 0, none⟩) ((cue_Fit.segs (cue_Fit.raw pre)).length + 1) cp))).cell? ⟨g2, 0, none⟩ = some (.slice none 0 0) := (blk_cell J2a.out 0).trans rfl; have Y2fa : ((W2.setCell ⟨gO, 0, none⟩ (.slice (some ⟨gp, 0, none⟩) ((cue_Fit.segs (cue_Fit.raw pre)).length + 1) cp))).frozen? ⟨g2, 0, none⟩ = false := blk_frozen J2a.out 0; obtain ⟨Y3a, Y3fa⟩ := cue_Fit.other J3a.out h23 (.slice none 0 0); clear hv1))
        ·
          have hokf : cue_Fit.oks q.1 = false := by rw [HOK.out]; exact decide_eq_false (by rw [if_pos cr]; omega)
          have hst := cue_Fit.stopped J2a.out J3a.out h23
          exact ⟨((HKOa.out.trans (KeepsOthers.setCell _ _ _)).trans (KeepsOthers.setCell _ _ _)).from _, ⟨⟨rfl, by rw [cue_Fit.raw_snoc, cue_Fit.allo_snoc, hokf, Bool.and_false]⟩, hst.1⟩, hst.2, ((HBW.out.trans HKBa.out).setCell (p := ⟨g2, 0, none⟩) h2w _).setCell (p := ⟨g3, 0, none⟩) h3w _⟩
      · by_cases cm : 4194304 < Q + 1
        · gi_wp2_with (first
            | (gi_at_call 23; refine (CallsIn.inRound l' (callsIn_wide.2 (num_Floor.calls 5 _ _ Q R 0 _ hfl))).mono ?_; rintro e W1 ⟨rfl, hb⟩; have J2 := Aside0.mk (cue_Fit.blk I2.out hb); have J3 := Aside0.mk (cue_Fit.blk I3.out hb); have J4 := Aside0.mk (cue_Fit.blk I4.out hb); have JV := Aside0.mk (show Boxed W1 gO 27 v from cue_Fit.blk HV.out hb); have JR := Aside0.mk (cue_Fit.own_bel HROW.out hb); have K1 := Aside0.mk (cue_Fit.blk H1.out hb); have HKO := Aside0.mk (cue_Fit.keeps_bel hb); have HKB := Aside0.mk (hb.mono hnW); have HS := Aside0.mk (Nat.le_trans hnW hb.size); have cO : (W1).cell? ⟨gO, 0, none⟩ = some v := JV.out.cell; have cOf : (W1).frozen? ⟨gO, 0, none⟩ = false := JV.out.frozen; have cA : (W1).cell? ⟨ga, 0, none⟩ = some (.int .i64 xa) := (blk_cell K1.out 0).trans (congrArg (fun z => some (Value.int .i64 z)) hxa); have Y2 : (W1).cell? ⟨g2, 0, none⟩ = some (.slice none 0 0) := (blk_cell J2.out 0).trans rfl; have Y2f : (W1).frozen? ⟨g2, 0, none⟩ = false := blk_frozen J2.out 0; obtain ⟨Y3, Y3f⟩ := cue_Fit.other J3.out h23 (.slice none 0 0); clear hb)
            | (gi_at_builtin; refine wpListIn_append_own _ rfl _ _ 27 rfl w.heap.size 45 i0 _ 2 16 Try.underlying27 hi hz0 hz1 hz2 rfl (by decide) _ _ _ rfl (JR.out.alloc _) ⟨(W1).heap.size, 0, none⟩ 1 1 [.int .i64 xa, .int .i64 (Q + 1)] rfl rfl (cue_Fit.new2 _ _ _ _ _ (by simp)) (by simp [Value.oneCell']) (Nat.le_trans (by omega) hmx) (by omega) (Nat.le_trans HS.out (by simp)) ?_; intro v' W2 hown' hgrow _; obtain ⟨gp, cp, rfl⟩ := ownsRow_succ hown'; obtain ⟨hv1, hv2, hr2, hk2, hb2⟩ := JV.out.appended (by decide) JR.out HS.out h0B hown' hgrow; have J2a := Aside0.mk (cue_Fit.app_other (v' := (.slice (some ⟨gp, 0, none⟩) ((cue_Fit.segs (cue_Fit.raw pre)).length + 1) cp)) JR.out hgrow J2.out (by decide) h2O); have J3a := Aside0.mk (cue_Fit.app_other (v' := (.slice (some ⟨gp, 0, none⟩) ((cue_Fit.segs (cue_Fit.raw pre)).length + 1) cp)) JR.out hgrow J3.out (by decide) h3O); have J4a := Aside0.mk (cue_Fit.app_other (v' := (.slice (some ⟨gp, 0, none⟩) ((cue_Fit.segs (cue_Fit.raw pre)).length + 1) cp)) JR.out hgrow J4.out (by decide) h4O); have K1a := Aside0.mk (cue_Fit.app_other (v' := (.slice (some ⟨gp, 0, none⟩) ((cue_Fit.segs (cue_Fit.raw pre)).length + 1) cp)) JR.out hgrow K1.out (by decide) haO); have JVa := Aside0.mk hv2; have JRa := Aside0.mk hr2; have HKOa := Aside0.mk (HKO.out.trans hk2); have HKBa := Aside0.mk (HKB.out.trans hb2); have HSa := Aside0.mk (Nat.le_trans HS.out hb2.size); have hc1 := hv1.cell; have hf1 := hv1.frozen; clear cO cOf cA Y2 Y2f Y3 Y3f hown' hgrow hv2 hr2 hk2 hb2; have cOa : ((W2.setCell ⟨gO, 0, none⟩ (.slice (some ⟨gp, 0, none⟩) ((cue_Fit.segs (cue_Fit.raw pre)).length + 1) cp))).cell? ⟨gO, 0, none⟩ = some (.slice (some ⟨gp, 0, none⟩) ((cue_Fit.segs (cue_Fit.raw pre)).length + 1) cp) := JVa.out.cell; have cOfa : ((W2.setCell ⟨gO, 0, none⟩ (.slice (some ⟨gp, 0, none⟩) ((cue_Fit.segs (cue_Fit.raw pre)).length + 1) cp))).frozen? ⟨gO, 0, none⟩ = false := JVa.out.frozen; have cAa : ((W2.setCell ⟨gO, 0, none⟩ (.slice (some ⟨gp, 0, none⟩) ((cue_Fit.segs (cue_Fit.raw pre)).length + 1) cp))).cell? ⟨ga, 0, none⟩ = some (.int .i64 xa) := (blk_cell K1a.out 0).trans (congrArg (fun z => some (Value.int .i64 z)) hxa); have Y2a : ((W2.setCell ⟨gO, 0, none⟩ (.slice (some ⟨gp, 0, none⟩) ((cue_Fit.segs (cue_Fit.raw pre)).length + 1) cp))).cell? ⟨g2, 0, none⟩ = some (.slice none 0 0) := (blk_cell J2a.out 0).trans rfl; have Y2fa : ((W2.setCell ⟨gO, 0, none⟩ (.slice (some ⟨gp, 0, none⟩) ((cue_Fit.segs (cue_Fit.raw pre)).length + 1) cp))).frozen? ⟨g2, 0, none⟩ = false := blk_frozen J2a.out 0; obtain ⟨Y3a, Y3fa⟩ := cue_Fit.other J3a.out h23 (.slice none 0 0); clear hv1))
          have hokf : cue_Fit.oks q.1 = false := by rw [HOK.out]; exact decide_eq_false (by rw [if_pos cr]; omega)
          have hst := cue_Fit.stopped J2a.out J3a.out h23
          exact ⟨((HKOa.out.trans (KeepsOthers.setCell _ _ _)).trans (KeepsOthers.setCell _ _ _)).from _, ⟨⟨rfl, by rw [cue_Fit.raw_snoc, cue_Fit.allo_snoc, hokf, Bool.and_false]⟩, hst.1⟩, hst.2, ((HBW.out.trans HKBa.out).setCell (p := ⟨g2, 0, none⟩) h2w _).setCell (p := ⟨g3, 0, none⟩) h3w _⟩
        · gi_wp2_with (first
            | (gi_at_call 23; refine (CallsIn.inRound l' (callsIn_wide.2 (num_Floor.calls 5 _ _ Q R 0 _ hfl))).mono ?_; rintro e W1 ⟨rfl, hb⟩; have J2 := Aside0.mk (cue_Fit.blk I2.out hb); have J3 := Aside0.mk (cue_Fit.blk I3.out hb); have J4 := Aside0.mk (cue_Fit.blk I4.out hb); have JV := Aside0.mk (show Boxed W1 gO 27 v from cue_Fit.blk HV.out hb); have JR := Aside0.mk (cue_Fit.own_bel HROW.out hb); have K1 := Aside0.mk (cue_Fit.blk H1.out hb); have HKO := Aside0.mk (cue_Fit.keeps_bel hb); have HKB := Aside0.mk (hb.mono hnW); have HS := Aside0.mk (Nat.le_trans hnW hb.size); have cO : (W1).cell? ⟨gO, 0, none⟩ = some v := JV.out.cell; have cOf : (W1).frozen? ⟨gO, 0, none⟩ = false := JV.out.frozen; have cA : (W1).cell? ⟨ga, 0, none⟩ = some (.int .i64 xa) := (blk_cell K1.out 0).trans (congrArg (fun z => some (Value.int .i64 z)) hxa); have Y2 : (W1).cell? ⟨g2, 0, none⟩ = some (.slice none 0 0) := (blk_cell J2.out 0).trans rfl; have Y2f : (W1).frozen? ⟨g2, 0, none⟩ = false := blk_frozen J2.out 0; obtain ⟨Y3, Y3f⟩ := cue_Fit.other J3.out h23 (.slice none 0 0); clear hb)
            | (gi_at_builtin; refine wpListIn_append_own _ rfl _ _ 27 rfl w.heap.size 45 i0 _ 2 16 Try.underlying27 hi hz0 hz1 hz2 rfl (by decide) _ _ _ rfl (JR.out.alloc _) ⟨(W1).heap.size, 0, none⟩ 1 1 [.int .i64 xa, .int .i64 (Q + 1)] rfl rfl (cue_Fit.new2 _ _ _ _ _ (by simp)) (by simp [Value.oneCell']) (Nat.le_trans (by omega) hmx) (by omega) (Nat.le_trans HS.out (by simp)) ?_; intro v' W2 hown' hgrow _; obtain ⟨gp, cp, rfl⟩ := ownsRow_succ hown'; obtain ⟨hv1, hv2, hr2, hk2, hb2⟩ := JV.out.appended (by decide) JR.out HS.out h0B hown' hgrow; have J2a := Aside0.mk (cue_Fit.app_other (v' := (.slice (some ⟨gp, 0, none⟩) ((cue_Fit.segs (cue_Fit.raw pre)).length + 1) cp)) JR.out hgrow J2.out (by decide) h2O); have J3a := Aside0.mk (cue_Fit.app_other (v' := (.slice (some ⟨gp, 0, none⟩) ((cue_Fit.segs (cue_Fit.raw pre)).length + 1) cp)) JR.out hgrow J3.out (by decide) h3O); have J4a := Aside0.mk (cue_Fit.app_other (v' := (.slice (some ⟨gp, 0, none⟩) ((cue_Fit.segs (cue_Fit.raw pre)).length + 1) cp)) JR.out hgrow J4.out (by decide) h4O); have K1a := Aside0.mk (cue_Fit.app_other (v' := (.slice (some ⟨gp, 0, none⟩) ((cue_Fit.segs (cue_Fit.raw pre)).length + 1) cp)) JR.out hgrow K1.out (by decide) haO); have JVa := Aside0.mk hv2; have JRa := Aside0.mk hr2; have HKOa := Aside0.mk (HKO.out.trans hk2); have HKBa := Aside0.mk (HKB.out.trans hb2); have HSa := Aside0.mk (Nat.le_trans HS.out hb2.size); have hc1 := hv1.cell; have hf1 := hv1.frozen; clear cO cOf cA Y2 Y2f Y3 Y3f hown' hgrow hv2 hr2 hk2 hb2; have cOa : ((W2.setCell ⟨gO, 0, none⟩ (.slice (some ⟨gp, 0, none⟩) ((cue_Fit.segs (cue_Fit.raw pre)).length + 1) cp))).cell? ⟨gO, 0, none⟩ = some (.slice (some ⟨gp, 0, none⟩) ((cue_Fit.segs (cue_Fit.raw pre)).length + 1) cp) := JVa.out.cell; have cOfa : ((W2.setCell ⟨gO, 0, none⟩ (.slice (some ⟨gp, 0, none⟩) ((cue_Fit.segs (cue_Fit.raw pre)).length + 1) cp))).frozen? ⟨gO, 0, none⟩ = false := JVa.out.frozen; have cAa : ((W2.setCell ⟨gO, 0, none⟩ (.slice (some ⟨gp, 0, none⟩) ((cue_Fit.segs (cue_Fit.raw pre)).length + 1) cp))).cell? ⟨ga, 0, none⟩ = some (.int .i64 xa) := (blk_cell K1a.out 0).trans (congrArg (fun z => some (Value.int .i64 z)) hxa); have Y2a : ((W2.setCell ⟨gO, 0, none⟩ (.slice (some ⟨gp, 0, none⟩) ((cue_Fit.segs (cue_Fit.raw pre)).length + 1) cp))).cell? ⟨g2, 0, none⟩ = some (.slice none 0 0) := (blk_cell J2a.out 0).trans rfl; have Y2fa : ((W2.setCell ⟨gO, 0, none⟩ (.slice (some ⟨gp, 0, none⟩) ((cue_Fit.segs (cue_Fit.raw pre)).length + 1) cp))).frozen? ⟨g2, 0, none⟩ = false := blk_frozen J2a.out 0; obtain ⟨Y3a, Y3fa⟩ := cue_Fit.other J3a.out h23 (.slice none 0 0); clear hv1)
            | (gi_at_builtin; refine wpListIn_append_own _ rfl _ _ 27 rfl w.heap.size 45 i0 _ 2 16 Try.underlying27 hi hz0 hz1 hz2 rfl (by decide) _ _ _ rfl (JRa.out.alloc _) ⟨(W2).heap.size, 0, none⟩ 1 1 [.int .i64 (xa + R), .int .i64 Q] rfl rfl (cue_Fit.new2 _ _ _ _ _ (by simp)) (by simp [Value.oneCell']) (Nat.le_trans (by omega) hmx) (by omega) (Nat.le_trans HSa.out (by simp)) ?_; intro v' W3 hown' hgrow _; obtain ⟨gq, cq, rfl⟩ := ownsRow_succ hown'; obtain ⟨hv1, hv2, hr2, hk2, hb2⟩ := JVa.out.appended (by decide) JRa.out HSa.out h0B hown' hgrow; have J2b := Aside0.mk (cue_Fit.app_other (v' := (.slice (some ⟨gq, 0, none⟩) ((cue_Fit.segs (cue_Fit.raw pre)).length + 1 + 1) cq)) JRa.out hgrow J2a.out (by decide) h2O); have J3b := Aside0.mk (cue_Fit.app_other (v' := (.slice (some ⟨gq, 0, none⟩) ((cue_Fit.segs (cue_Fit.raw pre)).length + 1 + 1) cq)) JRa.out hgrow J3a.out (by decide) h3O); have J4b := Aside0.mk (cue_Fit.app_other (v' := (.slice (some ⟨gq, 0, none⟩) ((cue_Fit.segs (cue_Fit.raw pre)).length + 1 + 1) cq)) JRa.out hgrow J4a.out (by decide) h4O); have K1b := Aside0.mk (cue_Fit.app_other (v' := (.slice (some ⟨gq, 0, none⟩) ((cue_Fit.segs (cue_Fit.raw pre)).length + 1 + 1) cq)) JRa.out hgrow K1a.out (by decide) haO); have JVb := Aside0.mk hv2; have JRb := Aside0.mk hr2; have HKOb := Aside0.mk (HKOa.out.trans hk2); have HKBb := Aside0.mk (HKBa.out.trans hb2); have HSb := Aside0.mk (Nat.le_trans HSa.out hb2.size); have hc1 := hv1.cell; have hf1 := hv1.frozen; clear cOa cOfa cAa Y2a Y2fa Y3a Y3fa hown' hgrow hv2 hr2 hk2 hb2; have cOb : ((W3.setCell ⟨gO, 0, none⟩ (.slice (some ⟨gq, 0, none⟩) ((cue_Fit.segs (cue_Fit.raw pre)).length + 1 + 1) cq))).cell? ⟨gO, 0, none⟩ = some (.slice (some ⟨gq, 0, none⟩) ((cue_Fit.segs (cue_Fit.raw pre)).length + 1 + 1) cq) := JVb.out.cell; have cOfb : ((W3.setCell ⟨gO, 0, none⟩ (.slice (some ⟨gq, 0, none⟩) ((cue_Fit.segs (cue_Fit.raw pre)).length + 1 + 1) cq))).frozen? ⟨gO, 0, none⟩ = false := JVb.out.frozen; have cAb : ((W3.setCell ⟨gO, 0, none⟩ (.slice (some ⟨gq, 0, none⟩) ((cue_Fit.segs (cue_Fit.raw pre)).length + 1 + 1) cq))).cell? ⟨ga, 0, none⟩ = some (.int .i64 xa) := (blk_cell K1b.out 0).trans (congrArg (fun z => some (Value.int .i64 z)) hxa); have Y2b : ((W3.setCell ⟨gO, 0, none⟩ (.slice (some ⟨gq, 0, none⟩) ((cue_Fit.segs (cue_Fit.raw pre)).length + 1 + 1) cq))).cell? ⟨g2, 0, none⟩ = some (.slice none 0 0) := (blk_cell J2b.out 0).trans rfl; have Y2fb : ((W3.setCell ⟨gO, 0, none⟩ (.slice (some ⟨gq, 0, none⟩) ((cue_Fit.segs (cue_Fit.raw pre)).length + 1 + 1) cq))).frozen? ⟨g2, 0, none⟩ = false := blk_frozen J2b.out 0; obtain ⟨Y3b, Y3fb⟩ := cue_Fit.other J3b.out h23 (.slice none 0 0); clear hv1))
          have hokt : cue_Fit.oks q.1 = true := by rw [HOK.out]; exact decide_eq_true (by rw [if_pos cr]; omega)
          have hrw : cue_Fit.segs (cue_Fit.raw (pre ++ [q])) = cue_Fit.segs (cue_Fit.raw pre) ++ cue_Fit.seg q.1 := by rw [cue_Fit.raw_snoc, cue_Fit.segs_snoc]
          rw [HSEG.out, if_pos cr] at hrw
          have hro := JRb.out
          rw [List.append_assoc] at hro
          exact ⟨HKOb.out.from _, ⟨HKBb.out, fun o ho => by rw [I4.out] at ho; cases ho; exact J4b.out⟩, ⟨⟨by rw [cue_Fit.raw_snoc, cue_Fit.allo_snoc, hokt, Bool.and_true]; exact I1.out, J2b.out⟩, J3b.out, J4b.out⟩, ⟨_, JVb.out, by rw [hrw, cue_Fit.cells_append, List.length_append]; exact hro, trivial⟩, HBW.out.trans HKBb.out⟩
    · by_cases cq : Q < 1
      · gi_wp2_with (first
          | (gi_at_call 23; refine (CallsIn.inRound l' (callsIn_wide.2 (num_Floor.calls 5 _ _ Q R 0 _ hfl))).mono ?_; rintro e W1 ⟨rfl, hb⟩; have J2 := Aside0.mk (cue_Fit.blk I2.out hb); have J3 := Aside0.mk (cue_Fit.blk I3.out hb); have J4 := Aside0.mk (cue_Fit.blk I4.out hb); have JV := Aside0.mk (show Boxed W1 gO 27 v from cue_Fit.blk HV.out hb); have JR := Aside0.mk (cue_Fit.own_bel HROW.out hb); have K1 := Aside0.mk (cue_Fit.blk H1.out hb); have HKO := Aside0.mk (cue_Fit.keeps_bel hb); have HKB := Aside0.mk (hb.mono hnW); have HS := Aside0.mk (Nat.le_trans hnW hb.size); have cO : (W1).cell? ⟨gO, 0, none⟩ = some v := JV.out.cell; have cOf : (W1).frozen? ⟨gO, 0, none⟩ = false := JV.out.frozen; have cA : (W1).cell? ⟨ga, 0, none⟩ = some (.int .i64 xa) := (blk_cell K1.out 0).trans (congrArg (fun z => some (Value.int .i64 z)) hxa); have Y2 : (W1).cell? ⟨g2, 0, none⟩ = some (.slice none 0 0) := (blk_cell J2.out 0).trans rfl; have Y2f : (W1).frozen? ⟨g2, 0, none⟩ = false := blk_frozen J2.out 0; obtain ⟨Y3, Y3f⟩ := cue_Fit.other J3.out h23 (.slice none 0 0); clear hb))
        ·
          have hokf : cue_Fit.oks q.1 = false := by rw [HOK.out]; exact decide_eq_false (by rw [if_neg (Int.not_lt.2 cr)]; omega)
          have hst := cue_Fit.stopped J2.out J3.out h23
          exact ⟨((HKO.out.trans (KeepsOthers.setCell _ _ _)).trans (KeepsOthers.setCell _ _ _)).from _, ⟨⟨rfl, by rw [cue_Fit.raw_snoc, cue_Fit.allo_snoc, hokf, Bool.and_false]⟩, hst.1⟩, hst.2, ((HBW.out.trans HKB.out).setCell (p := ⟨g2, 0, none⟩) h2w _).setCell (p := ⟨g3, 0, none⟩) h3w _⟩
      · by_cases cm : 4194304 < Q
        · gi_wp2_with (first
            | (gi_at_call 23; refine (CallsIn.inRound l' (callsIn_wide.2 (num_Floor.calls 5 _ _ Q R 0 _ hfl))).mono ?_; rintro e W1 ⟨rfl, hb⟩; have J2 := Aside0.mk (cue_Fit.blk I2.out hb); have J3 := Aside0.mk (cue_Fit.blk I3.out hb); have J4 := Aside0.mk (cue_Fit.blk I4.out hb); have JV := Aside0.mk (show Boxed W1 gO 27 v from cue_Fit.blk HV.out hb); have JR := Aside0.mk (cue_Fit.own_bel HROW.out hb); have K1 := Aside0.mk (cue_Fit.blk H1.out hb); have HKO := Aside0.mk (cue_Fit.keeps_bel hb); have HKB := Aside0.mk (hb.mono hnW); have HS := Aside0.mk (Nat.le_trans hnW hb.size); have cO : (W1).cell? ⟨gO, 0, none⟩ = some v := JV.out.cell; have cOf : (W1).frozen? ⟨gO, 0, none⟩ = false := JV.out.frozen; have cA : (W1).cell? ⟨ga, 0, none⟩ = some (.int .i64 xa) := (blk_cell K1.out 0).trans (congrArg (fun z => some (Value.int .i64 z)) hxa); have Y2 : (W1).cell? ⟨g2, 0, none⟩ = some (.slice none 0 0) := (blk_cell J2.out 0).trans rfl; have Y2f : (W1).frozen? ⟨g2, 0, none⟩ = false := blk_frozen J2.out 0; obtain ⟨Y3, Y3f⟩ := cue_Fit.other J3.out h23 (.slice none 0 0); clear hb))
          have hokf : cue_Fit.oks q.1 = false := by rw [HOK.out]; exact decide_eq_false (by rw [if_neg (Int.not_lt.2 cr)]; omega)
          have hst := cue_Fit.stopped J2.out J3.out h23
          exact ⟨((HKO.out.trans (KeepsOthers.setCell _ _ _)).trans (KeepsOthers.setCell _ _ _)).from _, ⟨⟨rfl, by rw [cue_Fit.raw_snoc, cue_Fit.allo_snoc, hokf, Bool.and_false]⟩, hst.1⟩, hst.2, ((HBW.out.trans HKB.out).setCell (p := ⟨g2, 0, none⟩) h2w _).setCell (p := ⟨g3, 0, none⟩) h3w _⟩
        · gi_wp2_with (first
            | (gi_at_call 23; refine (CallsIn.inRound l' (callsIn_wide.2 (num_Floor.calls 5 _ _ Q R 0 _ hfl))).mono ?_; rintro e W1 ⟨rfl, hb⟩; have J2 := Aside0.mk (cue_Fit.blk I2.out hb); have J3 := Aside0.mk (cue_Fit.blk I3.out hb); have J4 := Aside0.mk (cue_Fit.blk I4.out hb); have JV := Aside0.mk (show Boxed W1 gO 27 v from cue_Fit.blk HV.out hb); have JR := Aside0.mk (cue_Fit.own_bel HROW.out hb); have K1 := Aside0.mk (cue_Fit.blk H1.out hb); have HKO := Aside0.mk (cue_Fit.keeps_bel hb); have HKB := Aside0.mk (hb.mono hnW); have HS := Aside0.mk (Nat.le_trans hnW hb.size); have cO : (W1).cell? ⟨gO, 0, none⟩ = some v := JV.out.cell; have cOf : (W1).frozen? ⟨gO, 0, none⟩ = false := JV.out.frozen; have cA : (W1).cell? ⟨ga, 0, none⟩ = some (.int .i64 xa) := (blk_cell K1.out 0).trans (congrArg (fun z => some (Value.int .i64 z)) hxa); have Y2 : (W1).cell? ⟨g2, 0, none⟩ = some (.slice none 0 0) := (blk_cell J2.out 0).trans rfl; have Y2f : (W1).frozen? ⟨g2, 0, none⟩ = false := blk_frozen J2.out 0; obtain ⟨Y3, Y3f⟩ := cue_Fit.other J3.out h23 (.slice none 0 0); clear hb)
            | (gi_at_builtin; refine wpListIn_append_own _ rfl _ _ 27 rfl w.heap.size 45 i0 _ 2 16 Try.underlying27 hi hz0 hz1 hz2 rfl (by decide) _ _ _ rfl (JR.out.alloc _) ⟨(W1).heap.size, 0, none⟩ 1 1 [.int .i64 (xa + R), .int .i64 Q] rfl rfl (cue_Fit.new2 _ _ _ _ _ (by simp)) (by simp [Value.oneCell']) (Nat.le_trans (by omega) hmx) (by omega) (Nat.le_trans HS.out (by simp)) ?_; intro v' W3 hown' hgrow _; obtain ⟨gq, cq, rfl⟩ := ownsRow_succ hown'; obtain ⟨hv1, hv2, hr2, hk2, hb2⟩ := JV.out.appended (by decide) JR.out HS.out h0B hown' hgrow; have J2b := Aside0.mk (cue_Fit.app_other (v' := (.slice (some ⟨gq, 0, none⟩) ((cue_Fit.segs (cue_Fit.raw pre)).length + 1) cq)) JR.out hgrow J2.out (by decide) h2O); have J3b := Aside0.mk (cue_Fit.app_other (v' := (.slice (some ⟨gq, 0, none⟩) ((cue_Fit.segs (cue_Fit.raw pre)).length + 1) cq)) JR.out hgrow J3.out (by decide) h3O); have J4b := Aside0.mk (cue_Fit.app_other (v' := (.slice (some ⟨gq, 0, none⟩) ((cue_Fit.segs (cue_Fit.raw pre)).length + 1) cq)) JR.out hgrow J4.out (by decide) h4O); have K1b := Aside0.mk (cue_Fit.app_other (v' := (.slice (some ⟨gq, 0, none⟩) ((cue_Fit.segs (cue_Fit.raw pre)).length + 1) cq)) JR.out hgrow K1.out (by decide) haO); have JVb := Aside0.mk hv2; have JRb := Aside0.mk hr2; have HKOb := Aside0.mk (HKO.out.trans hk2); have HKBb := Aside0.mk (HKB.out.trans hb2); have HSb := Aside0.mk (Nat.le_trans HS.out hb2.size); have hc1 := hv1.cell; have hf1 := hv1.frozen; clear cO cOf cA Y2 Y2f Y3 Y3f hown' hgrow hv2 hr2 hk2 hb2; have cOb : ((W3.setCell ⟨gO, 0, none⟩ (.slice (some ⟨gq, 0, none⟩) ((cue_Fit.segs (cue_Fit.raw pre)).length + 1) cq))).cell? ⟨gO, 0, none⟩ = some (.slice (some ⟨gq, 0, none⟩) ((cue_Fit.segs (cue_Fit.raw pre)).length + 1) cq) := JVb.out.cell; have cOfb : ((W3.setCell ⟨gO, 0, none⟩ (.slice (some ⟨gq, 0, none⟩) ((cue_Fit.segs (cue_Fit.raw pre)).length + 1) cq))).frozen? ⟨gO, 0, none⟩ = false := JVb.out.frozen; have cAb : ((W3.setCell ⟨gO, 0, none⟩ (.slice (some ⟨gq, 0, none⟩) ((cue_Fit.segs (cue_Fit.raw pre)).length + 1) cq))).cell? ⟨ga, 0, none⟩ = some (.int .i64 xa) := (blk_cell K1b.out 0).trans (congrArg (fun z => some (Value.int .i64 z)) hxa); have Y2b : ((W3.setCell ⟨gO, 0, none⟩ (.slice (some ⟨gq, 0, none⟩) ((cue_Fit.segs (cue_Fit.raw pre)).length + 1) cq))).cell? ⟨g2, 0, none⟩ = some (.slice none 0 0) := (blk_cell J2b.out 0).trans rfl; have Y2fb : ((W3.setCell ⟨gO, 0, none⟩ (.slice (some ⟨gq, 0, none⟩) ((cue_Fit.segs (cue_Fit.raw pre)).length + 1) cq))).frozen? ⟨g2, 0, none⟩ = false := blk_frozen J2b.out 0; obtain ⟨Y3b, Y3fb⟩ := cue_Fit.other J3b.out h23 (.slice none 0 0); clear hv1))
          have hokt : cue_Fit.oks q.1 = true := by rw [HOK.out]; exact decide_eq_true (by rw [if_neg (Int.not_lt.2 cr)]; omega)
          have hrw : cue_Fit.segs (cue_Fit.raw (pre ++ [q])) = cue_Fit.segs (cue_Fit.raw pre) ++ cue_Fit.seg q.1 := by rw [cue_Fit.raw_snoc, cue_Fit.segs_snoc]
          rw [HSEG.out, if_neg (Int.not_lt.2 cr)] at hrw
          have hro := JRb.out
          skip
          exact ⟨HKOb.out.from _, ⟨HKBb.out, fun o ho => by rw [I4.out] at ho; cases ho; exact J4b.out⟩, ⟨⟨by rw [cue_Fit.raw_snoc, cue_Fit.allo_snoc, hokt, Bool.and_true]; exact I1.out, J2b.out⟩, J3b.out, J4b.out⟩, ⟨_, JVb.out, by rw [hrw, cue_Fit.cells_append, List.length_append]; exact hro, trivial⟩, HBW.out.trans HKBb.out⟩
  case done =>
    rintro D ys W hD rfl ⟨⟨⟨i1, i2⟩, i3, i4⟩, ⟨v, hv, hrow, _⟩, hBW⟩ hK
    have hraw : cue_Fit.raw (cue_Check.upto (cue_Fit.item l h) (l.length - 1)) = cue_Fit.ps l := cue_Fit.items l h _ (Nat.le_refl _)
    rw [hraw] at i1 hrow
    rw [i1, if_pos rfl] at HR
    obtain ⟨A, cp, rfl⟩ := cue_Fit.own_slice hrow
    have I2 := Aside0.mk i2
    have I3 := Aside0.mk i3
    have HROW := Aside0.mk hrow
    have HBW := Aside0.mk hBW
    have HK0 := Aside0.mk hK
    have cO := hv.cell
    have y2 : W.cell? ⟨g2, 0, none⟩ = some (.slice none 0 0) := (blk_cell i2 0).trans rfl
    have y2f : W.frozen? ⟨g2, 0, none⟩ = false := blk_frozen i2 0
    have hD2 : D ≠ g2 := by have := (Array.getElem?_eq_some_iff.1 HZ2.out).1; simp at hD; omega
    have hD3 : D ≠ g3 := by have := (Array.getElem?_eq_some_iff.1 HZ3.out).1; simp at hD; omega
    clear i1 i2 i3 i4 hrow hBW hK hv hraw
    generalize hn : (cue_Fit.segs (cue_Fit.ps l)).length = n at cO HR HROW ⊢
    by_cases c64 : 64 < n
    · obtain ⟨y3, y3f⟩ := cue_Fit.other I3.out h23 (.slice none 0 0)
      go_wp2
      (try rw [Exit.noGoto_ret])
      have hK' := ((KeepsOthers.setCell W ⟨g2, 0, none⟩ (.slice none 0 0)).trans (KeepsOthers.setCell _ ⟨g3, 0, none⟩ (.int .i64 3))).same D _ HK0.out rfl
      have hs := cue_Fit.two_h I2.out I3.out h23 (.slice none 0 0) (.int .i64 3)
      have c2 : ((((W.setCell ⟨g2, 0, none⟩ (.slice none 0 0)).setCell ⟨g3, 0, none⟩ (.int .i64 3)).putObj D (.deferred none)).cell? ⟨g2, 0, none⟩) = some (.slice none 0 0) := cell_kept ((blk_cell hs.1 0).trans rfl) (grownBy_putObj' _ D (.deferred none)) (fun r e => by cases e; exact ⟨_, hK', rfl⟩)
      have c3 : ((((W.setCell ⟨g2, 0, none⟩ (.slice none 0 0)).setCell ⟨g3, 0, none⟩ (.int .i64 3)).putObj D (.deferred none)).cell? ⟨g3, 0, none⟩) = some (.int .i64 3) := cell_kept ((blk_cell hs.2 0).trans rfl) (grownBy_putObj' _ D (.deferred none)) (fun r e => by cases e; exact ⟨_, hK', rfl⟩)
      refine ⟨by simp, .inl ⟨_, _, rfl, run_takeDeferred hK', ?_⟩⟩
      refine ⟨.tuple #[.slice none 0 0, .int .i64 3], by simp [results, Try.f13, go_sem, c2, c3], ⟨.slice none 0 0, ?_⟩⟩
      rw [HR.out, if_pos c64]
      exact ⟨rfl, Kd.R_nil _ _ _ _ _, (((hb5.trans HBW.out).setCell (p := ⟨g2, 0, none⟩) h2w _).setCell (p := ⟨g3, 0, none⟩) h3w _).trans (belowK_b (w := w) (Nat.le_refl _) _ D _ _ (by have := hb5.size; simp at hD this; omega) hK' rfl rfl)⟩
    · obtain ⟨y3, y3f⟩ := cue_Fit.other I3.out h23 (.slice A n cp)
      go_wp2
      (try rw [Exit.noGoto_ret])
      have hK' := ((KeepsOthers.setCell W ⟨g2, 0, none⟩ (.slice A n cp)).trans (KeepsOthers.setCell _ ⟨g3, 0, none⟩ (.int .i64 0))).same D _ HK0.out rfl
      have hs := cue_Fit.two_h I2.out I3.out h23 (.slice A n cp) (.int .i64 0)
      have c2 : ((((W.setCell ⟨g2, 0, none⟩ (.slice A n cp)).setCell ⟨g3, 0, none⟩ (.int .i64 0)).putObj D (.deferred none)).cell? ⟨g2, 0, none⟩) = some (.slice A n cp) := cell_kept ((blk_cell hs.1 0).trans rfl) (grownBy_putObj' _ D (.deferred none)) (fun r e => by cases e; exact ⟨_, hK', rfl⟩)
      have c3 : ((((W.setCell ⟨g2, 0, none⟩ (.slice A n cp)).setCell ⟨g3, 0, none⟩ (.int .i64 0)).putObj D (.deferred none)).cell? ⟨g3, 0, none⟩) = some (.int .i64 0) := cell_kept ((blk_cell hs.2 0).trans rfl) (grownBy_putObj' _ D (.deferred none)) (fun r e => by cases e; exact ⟨_, hK', rfl⟩)
      refine ⟨by simp, .inl ⟨_, _, rfl, run_takeDeferred hK', ?_⟩⟩
      refine ⟨.tuple #[.slice A n cp, .int .i64 0], by simp [results, Try.f13, go_sem, c2, c3], ⟨.slice A n cp, ?_⟩⟩
      rw [HR.out, if_neg (by omega)]
      refine ⟨rfl, cue_Fit.own_R ?_, (((hb5.trans HBW.out).setCell (p := ⟨g2, 0, none⟩) h2w _).setCell (p := ⟨g3, 0, none⟩) h3w _).trans (belowK_b (w := w) (Nat.le_refl _) _ D _ _ (by have := hb5.size; simp at hD this; omega) hK' rfl rfl)⟩
      rw [hn]
      exact ownsRow_putObj (cue_Fit.own_set (cue_Fit.own_set HROW.out I2.out (by decide) _) ((Below.heap_setCell _ ⟨g2, 0, none⟩ _ g3 h23).trans I3.out) (by decide) _) _ hK' rfl
  case stop =>
    rintro D c pre W hD ⟨k, hk, rfl⟩ ⟨⟨⟨rfl, hp⟩, i2⟩, i3, hBW⟩ hK
    have hraw : cue_Fit.raw (cue_Check.upto (cue_Fit.item l h) k) = cue_Check.upto (cue_Check.pr l) k := cue_Fit.items l h k hk
    rw [hraw] at hp
    have hnall : ¬ cue_Fit.allo (cue_Fit.ps l) = true := by
      intro hh
      have : cue_Fit.allo (cue_Check.upto (cue_Check.pr l) k) = true := by
        unfold cue_Fit.allo at hh ⊢
        rw [List.all_eq_true] at hh ⊢
        intro z hz
        refine hh z ?_
        unfold cue_Fit.ps cue_Check.upto at *
        obtain ⟨i, hi, rfl⟩ := List.mem_map.1 hz
        exact List.mem_map.2 ⟨i, List.mem_range.2 (by have := List.mem_range.1 hi; omega), rfl⟩
      rw [hp] at this
      cases this
    rw [if_neg hnall] at HR
    have HK0 := Aside0.mk hK
    have I2 := Aside0.mk i2
    have I3 := Aside0.mk i3
    have hD2 : D ≠ g2 := by have := (Array.getElem?_eq_some_iff.1 HZ2.out).1; simp at hD; omega
    have hD3 : D ≠ g3 := by have := (Array.getElem?_eq_some_iff.1 HZ3.out).1; simp at hD; omega
    clear hp hK hraw hnall i2 i3
    gi_wp2
    (try rw [Exit.noGoto_ret])
    have c2 : ((W.putObj D (.deferred none)).cell? ⟨g2, 0, none⟩) = some (.slice none 0 0) := cell_kept ((blk_cell I2.out 0).trans rfl) (grownBy_putObj' _ D (.deferred none)) (fun r e => by cases e; exact ⟨_, HK0.out, rfl⟩)
    have c3 : ((W.putObj D (.deferred none)).cell? ⟨g3, 0, none⟩) = some (.int .i64 1) := cell_kept ((blk_cell I3.out 0).trans rfl) (grownBy_putObj' _ D (.deferred none)) (fun r e => by cases e; exact ⟨_, HK0.out, rfl⟩)
    refine ⟨by simp, .inl ⟨_, _, rfl, run_takeDeferred HK0.out, ?_⟩⟩
    refine ⟨.tuple #[.slice none 0 0, .int .i64 1], by simp [results, Try.f13, go_sem, c2, c3], ⟨.slice none 0 0, ?_⟩⟩
    rw [HR.out]
    exact ⟨rfl, Kd.R_nil _ _ _ _ _, (hb5.trans hBW).trans (belowK_b (w := w) (Nat.le_refl _) _ D _ _ (by have := hb5.size; simp at hD this; omega) HK0.out rfl rfl)⟩
theorem cue_Fit.calls (A0 : Option Addr) (c0 : Nat) (l0 : List S40) (r1 : List S45) (r2 : Int) (w : World) (hr0 : Kd.C k40 w A0 l0.length l0) (hc0 : l0.length ≤ c0) (h : cue_Fit.f l0 = some (r1, r2)) :
    Calls Try.prog 13 #[.slice A0 l0.length c0] w fun e w' => ∃ v0_ : Value, e = .returned (.tuple #[v0_, .int .i64 r2]) ∧ Kd.R k45 45 w' w.heap.size (fun _ => True) v0_ r1 ∧ Below w.heap.size w w' := by
  have hres : cue_Fit.res l0 = (r1, r2) := Option.some.inj h
  by_cases hc : cue_Check.chk l0 = 0
  · obtain ⟨ad, rfl, _⟩ := at_T40 hr0 0 (by omega) (by have := (cue_Fit.chk0 hc).1; omega)
    have := cue_Fit.walk_ok ad c0 l0 w hr0 hc0 hc
    rw [hres] at this
    exact this
  · unfold cue_Fit.res at hres
    rw [if_neg hc] at hres
    injection hres with e1 e2
    subst e1 e2
    exact (cue_Fit.walk_bad A0 c0 l0 w hr0 hc0 hc).mono fun e w' ⟨he, hb⟩ => ⟨_, he, Kd.R_nil _ _ _ _ _, hb⟩
end

end Go.Proofs.Ytljjgcfifhfhdaa.X
