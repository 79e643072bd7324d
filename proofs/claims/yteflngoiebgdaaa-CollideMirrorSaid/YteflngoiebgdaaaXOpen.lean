/- Arguments that came in, opened by their kinds: what a reading of cells tells, whatever the type. -/
import Derived.Test.YteflngoiebgdaaaRows
import Derived.Test.YteflngoiebgdaaaXWInvWordsMore
import Derived.Deep.Slices
import Derived.ChangeSame
import Derived.OpenShut
namespace Go.Proofs.YteflngoiebgdaaaW.PrintWords
open Go.ChangeShapes Go.WideShapes Go.Deep Go.RowKit
open Go.Proofs.Yteflngoiebgdaaa (Rows.uptoBulk Rows.uptoBulkAll)

theorem bulk_one {H : Type} (d : DataW H) : 1 ≤ Rows.uptoBulk d := by
  cases d with
  | lit l => cases l <;> simp [Rows.uptoBulk]
  | nil => simp [Rows.uptoBulk]
  | ptr d => simp [Rows.uptoBulk]
  | slice elems spare => simp [Rows.uptoBulk]
  | agg parts => simp [Rows.uptoBulk]
  | iface t d => simp [Rows.uptoBulk]
  | map entries => simp [Rows.uptoBulk]
  | held h => simp [Rows.uptoBulk]

section
variable {H : Type} {enc : TypeId × Value → H} {P : Program} {w : World}
/-- Cells of type t read as a value y of kind d that is good; its weight is at most its datum's bulk. -/
structure Opens (enc : TypeId × Value → H) (P : Program) (w : World) {α : Type} (d : Kd α) (t : TypeId) (G : α → Prop) (β : α → Nat) : Prop where
  size : P.cellsOf t = d.sz
  out : ∀ fuel cs x, DataW.trod enc P w 0 (fun _ => true) true fuel t cs = some x → ∃ y, d.K w y cs ∧ G y ∧ β y ≤ Rows.uptoBulk x.1

theorem Opens.int {k : IntKind} {t : TypeId} (ht : P.underlying t = some (.int k)) (hc : P.cellsOf t = 1) :
    Opens enc P w (Kd.int k) t (fun y => (Lit.int k y).wf = true) (fun _ => 1) :=
  ⟨hc, fun fuel cs x h => by
    obtain ⟨n, rfl, rfl, hw⟩ := DataW.trod_int ht h
    exact ⟨n, rfl, hw, bulk_one _⟩⟩
theorem Opens.bool {t : TypeId} (ht : P.underlying t = some .bool) (hc : P.cellsOf t = 1) : Opens enc P w Kd.bool t (fun _ => True) (fun _ => 1) :=
  ⟨hc, fun fuel cs x h => by
    obtain ⟨b, rfl, rfl⟩ := DataW.trod_bool ht h
    exact ⟨b, rfl, trivial, bulk_one _⟩⟩
theorem Opens.string {t : TypeId} (ht : P.underlying t = some .string) (hc : P.cellsOf t = 1) : Opens enc P w Kd.string t (fun s => s.size ≤ maxLen) (fun s => s.size + 1) :=
  ⟨hc, fun fuel cs x h => by
    obtain ⟨s, rfl, rfl, hs⟩ := DataW.trod_string ht h
    refine ⟨s, rfl, hs, ?_⟩
    simp only [Rows.uptoBulk, Array.length_toList]
    exact Nat.le_refl _⟩

/-- Many of them, one by one. -/
theorem many {α : Type} (Q : Nat → α → Prop) (n : Nat) (h : ∀ i, i < n → ∃ y, Q i y) : ∃ ys : List α, ys.length = n ∧ ∀ i y, ys[i]? = some y → Q i y := by
  induction n with
  | zero => exact ⟨[], rfl, fun i y hy => by simp at hy⟩
  | succ n ih =>
    obtain ⟨ys, hl, hq⟩ := ih (fun i hi => h i (by omega))
    obtain ⟨y, hy⟩ := h n (by omega)
    refine ⟨ys ++ [y], by simp [hl], fun i z hz => ?_⟩
    by_cases hi : i < ys.length
    · rw [List.getElem?_append_left hi] at hz; exact hq i z hz
    · rw [List.getElem?_append_right (by omega)] at hz
      have : i = n := by
        have := (List.getElem?_eq_some_iff.1 hz).1
        simp at this; omega
      subst this
      rw [hl, Nat.sub_self] at hz
      simp at hz
      subst hz
      exact hy
/-- The weights of a list's elements, each at least one. -/
def weigh {α : Type} (β : α → Nat) : List α → Nat
  | [] => 0
  | y :: r => max 1 (β y) + weigh β r
theorem weigh_length {α : Type} (β : α → Nat) (l : List α) : l.length ≤ weigh β l := by
  induction l with
  | nil => simp [weigh]
  | cons y r ih => simp only [weigh, List.length_cons]; omega
theorem weigh_mem {α : Type} (β : α → Nat) {l : List α} {y : α} (h : y ∈ l) : β y ≤ weigh β l := by
  induction l with
  | nil => cases h
  | cons z r ih =>
    simp only [weigh]
    rcases List.mem_cons.1 h with rfl | h
    · omega
    · have := ih h; omega
theorem weigh_snoc {α : Type} (β : α → Nat) (l : List α) (y : α) : weigh β (l ++ [y]) = weigh β l + max 1 (β y) := by
  induction l with
  | nil => simp [weigh]
  | cons z r ih => simp only [List.cons_append, weigh, ih]; omega
theorem bulk_append (l r : List (DataW H)) : Rows.uptoBulkAll (l ++ r) = Rows.uptoBulkAll l + Rows.uptoBulkAll r := by
  induction l with
  | nil => simp [Rows.uptoBulkAll]
  | cons x l ih => simp only [List.cons_append, Rows.uptoBulkAll, ih]; omega
theorem weigh_bulk {α : Type} (β : α → Nat) (D : Nat → DataW H) : ∀ (n : Nat) (ys : List α), ys.length = n → (∀ i y, ys[i]? = some y → β y ≤ Rows.uptoBulk (D i)) → weigh β ys ≤ Rows.uptoBulkAll ((List.range n).map D) := by
  intro n
  induction n with
  | zero =>
    intro ys hl _
    obtain rfl := List.eq_nil_of_length_eq_zero hl
    simp [weigh]
  | succ n ih =>
    intro ys hl h
    obtain ⟨zs, z, rfl⟩ : ∃ zs z, ys = zs ++ [z] := ⟨ys.dropLast, ys.getLast (by intro e; simp [e] at hl), (List.dropLast_concat_getLast _).symm⟩
    have hz : zs.length = n := by simpa using hl
    have h1 := ih zs hz (fun i y hy => h i y (by
      have hi := (List.getElem?_eq_some_iff.1 hy).1
      rw [List.getElem?_append_left hi]; exact hy))
    have h2 := h n z (by rw [List.getElem?_append_right (by omega), hz]; simp)
    rw [weigh_snoc, List.range_succ, List.map_append, bulk_append]
    have h3 := bulk_one (D n)
    simp only [List.map_cons, List.map_nil, Rows.uptoBulkAll]
    omega
theorem Opens.slice {α : Type} {d : Kd α} {t e : TypeId} {G : α → Prop} {β : α → Nat} (ht : P.underlying t = some (.slice e)) (hc : P.cellsOf t = 1) (o : Opens enc P w d e G β) :
    Opens enc P w (Kd.slice e d) t (fun ys => ys.length ≤ maxLen ∧ ∀ y ∈ ys, G y) (fun ys => weigh β ys + 1) :=
  ⟨hc, fun fuel cs x h => by
    rcases open_slice ht h with ⟨rfl, rfl⟩ | ⟨a, len, cap, m, n, D, Pl, rfl, hb, hl, hm, hmm, rfl, hi⟩
    · exact ⟨[], ⟨none, 0, rfl, Nat.le_refl _, rfl, by simp, fun h => by simp at h⟩, ⟨by simp, fun y hy => by cases hy⟩, by simp [weigh]; exact bulk_one _⟩
    · have hlm : len ≤ m := by rw [hmm]; split <;> omega
      obtain ⟨ys, hys, hq⟩ := many (fun i y => ∃ cs', w.cells? 0 (a.add (i * P.cellsOf e)) (P.cellsOf e) = some cs' ∧ d.K w y cs' ∧ G y ∧ β y ≤ Rows.uptoBulk (D i)) len (fun i hil => by
        obtain ⟨cs', hcs, htr⟩ := hi i (by omega)
        obtain ⟨y, h1, h2, h3⟩ := o.out n cs' _ htr
        exact ⟨y, cs', hcs, h1, h2, h3⟩)
      have hlen : len ≤ 9223372036854775807 := by have := Nat.le_trans hl hm; simpa [maxLen] using this
      refine ⟨ys, ⟨some a, cap, by rw [hys], by omega, rfl, by omega, fun _ => ⟨a, rfl, fun j p hj => ?_⟩⟩, ⟨by rw [hys]; exact Nat.le_trans hl hm, fun y hy => ?_⟩, ?_⟩
      · obtain ⟨cs', hcs, hK, _⟩ := hq j p hj
        obtain ⟨_, hcl, hat⟩ := World.cells?_some hcs
        refine ⟨cs', by rw [d.K_len hK], hK, fun i u hu => ?_⟩
        have hil : i < P.cellsOf e := by rw [← hcl]; exact (List.getElem?_eq_some_iff.1 hu).1
        have := hat i hil
        rw [hu] at this
        rw [← this, ← Go.Deep.add_add, o.size]
      · obtain ⟨i, hy⟩ := List.mem_iff_getElem?.1 hy
        exact (hq i y hy).choose_spec.2.2.1
      · have := weigh_bulk β D len ys hys (fun i y hy => (hq i y hy).choose_spec.2.2.2)
        simp only [Rows.uptoBulk]
        omega⟩
/-- The fields from one on, in line. -/
structure OpensFs (enc : TypeId × Value → H) (P : Program) (w : World) {α : Type} (d : Kd α) (fs : List Field) (o : Nat) (G : α → Prop) (β : α → Nat) : Prop where
  out : ∀ (n : Nat) (cs : List Value) (xs : List (DataW H × List MemPlace)), xs.length = fs.length → (∀ (i : Nat) (f : Field), fs[i]? = some f → DataW.trod enc P w 0 (fun _ => true) true n f.type ((cs.drop f.offset).take (P.cellsOf f.type)) = xs[i]?) →
    ∃ y, d.K w y ((cs.drop o).take d.sz) ∧ G y ∧ β y ≤ Rows.uptoBulkAll (xs.map (·.1))
theorem OpensFs.last {α : Type} {d : Kd α} {G : α → Prop} {β : α → Nat} {f : Field} {o : Nat} (ho : f.offset = o) (h : Opens enc P w d f.type G β) : OpensFs enc P w d [f] o G β :=
  ⟨fun n cs xs hl hf => by
    match xs, hl with
    | [x], _ =>
      have h0 := hf 0 f rfl
      obtain ⟨y, h1, h2, h3⟩ := h.out n _ x h0
      rw [h.size, ho] at h1
      exact ⟨y, h1, h2, by simp only [List.map_cons, List.map_nil, Rows.uptoBulkAll]; omega⟩⟩
theorem OpensFs.cons {α γ : Type} {d : Kd α} {b : Kd γ} {G : α → Prop} {β : α → Nat} {G' : γ → Prop} {β' : γ → Nat} {f : Field} {r : List Field} {o : Nat} (ho : f.offset = o) (h : Opens enc P w d f.type G β) (hr : OpensFs enc P w b r (o + d.sz) G' β') :
    OpensFs enc P w (Kd.pair d b) (f :: r) o (fun p => G p.1 ∧ G' p.2) (fun p => β p.1 + β' p.2) :=
  ⟨fun n cs xs hl hf => by
    match xs, hl with
    | x :: xr, hl =>
      have h0 := hf 0 f rfl
      obtain ⟨y, h1, h2, h3⟩ := h.out n _ x h0
      obtain ⟨z, g1, g2, g3⟩ := hr.out n cs xr (by simpa using hl) (fun i f' hf' => hf (i + 1) f' hf')
      rw [h.size, ho] at h1
      refine ⟨(y, z), ⟨_, _, ?_, h1, g1⟩, ⟨h2, g2⟩, by simp only [List.map_cons, Rows.uptoBulkAll]; omega⟩
      show (cs.drop o).take (d.sz + b.sz) = _
      rw [List.take_add, List.drop_drop]⟩
theorem Opens.struct {α γ : Type} {d : Kd α} {fs : Array Field} {t : TypeId} {G : α → Prop} {β : α → Nat} (ht : P.underlying t = some (.struct fs)) (hc : P.cellsOf t = d.sz) (f : γ → α) (g : α → γ) (hfg : ∀ x, f (g x) = x) (h : OpensFs enc P w d fs.toList 0 G β) :
    Opens enc P w (Kd.iso d f) t (fun y => G (f y)) (fun y => β (f y) + 1) :=
  ⟨hc, fun fuel cs x hx => by
    obtain ⟨xs, n, rfl, rfl, hl, hxl, hf⟩ := DataW.trod_struct ht hx
    obtain ⟨y, h1, h2, h3⟩ := h.out n cs xs (by simpa using hxl) (fun i f' hf' => hf i f' (by simpa using hf'))
    refine ⟨g y, ?_, by rw [hfg]; exact h2, by rw [hfg]; simp only [Rows.uptoBulk]; omega⟩
    show d.K w (f (g y)) cs
    rw [hfg]
    rw [List.drop_zero, List.take_of_length_le (by omega)] at h1
    exact h1⟩
/-- An argument that is a slice. -/
theorem Opens.arg_slice {α : Type} {d : Kd α} {t e e' : TypeId} {G : List α → Prop} {β : List α → Nat} {r : Reach} {b0 : Nat} {v : Value} {dd : DataW H} {ps : List MemPlace}
    (ht : P.underlying t = some (.slice e')) (o : Opens enc P w (Kd.slice e d) t G β) (hv : Value.okWide P w r b0 t v) (h : DataW.Trod enc P w 0 (fun _ => true) true t v dd ps) :
    ∃ (ys : List α) (A : Option Addr) (c : Nat), v = .slice A ys.length c ∧ ys.length ≤ c ∧ d.C w A ys.length ys ∧ G ys ∧ β ys ≤ Rows.uptoBulk dd := by
  obtain ⟨a, len, cap, rfl⟩ := okWide_slice ht hv
  obtain ⟨fuel, hf⟩ := h
  obtain ⟨ys, ⟨A, c, hcs, hl, hC⟩, hG, hb⟩ := o.out fuel _ _ hf
  simp [Value.cells] at hcs
  obtain ⟨rfl, rfl, rfl⟩ := hcs
  exact ⟨ys, _, _, rfl, hl, hC, hG, hb⟩
/-- An argument that is a struct. -/
theorem Opens.arg_agg {α : Type} {d : Kd α} {t : TypeId} {fs : Array Field} {G : α → Prop} {β : α → Nat} {r : Reach} {b0 : Nat} {v : Value} {dd : DataW H} {ps : List MemPlace}
    (ht : P.underlying t = some (.struct fs)) (o : Opens enc P w d t G β) (hv : Value.okWide P w r b0 t v) (h : DataW.Trod enc P w 0 (fun _ => true) true t v dd ps) :
    ∃ (y : α) (cs : Array Value), v = .agg cs ∧ d.K w y cs.toList ∧ G y ∧ β y ≤ Rows.uptoBulk dd := by
  obtain ⟨cs, rfl, hsz⟩ := okWide_struct ht hv
  obtain ⟨fuel, hf⟩ := h
  obtain ⟨y, hK, hG, hb⟩ := o.out fuel _ _ hf
  exact ⟨y, cs, rfl, hK, hG, hb⟩
/-- The elements of an array, in line. -/
structure OpensAs (enc : TypeId × Value → H) (P : Program) (w : World) {α : Type} (d : Kd α) (e : TypeId) (n : Nat) (G : α → Prop) (β : α → Nat) : Prop where
  out : ∀ (m : Nat) (cs : List Value) (xs : List (DataW H × List MemPlace)), xs.length = n → (∀ (i : Nat), i < n → DataW.trod enc P w 0 (fun _ => true) true m e ((cs.drop (i * P.cellsOf e)).take (P.cellsOf e)) = xs[i]?) →
    ∃ y, d.K w y (cs.take d.sz) ∧ G y ∧ β y ≤ Rows.uptoBulkAll (xs.map (·.1))
theorem OpensAs.last {α : Type} {d : Kd α} {G : α → Prop} {β : α → Nat} {e : TypeId} (h : Opens enc P w d e G β) : OpensAs enc P w d e 1 G β :=
  ⟨fun m cs xs hl hf => by
    match xs, hl with
    | [x], _ =>
      have h0 := hf 0 (by omega)
      rw [Nat.zero_mul, List.drop_zero] at h0
      obtain ⟨y, h1, h2, h3⟩ := h.out m _ x h0
      rw [h.size] at h1
      exact ⟨y, h1, h2, by simp only [List.map_cons, List.map_nil, Rows.uptoBulkAll]; omega⟩⟩
theorem OpensAs.cons {α γ : Type} {d : Kd α} {b : Kd γ} {G : α → Prop} {β : α → Nat} {G' : γ → Prop} {β' : γ → Nat} {e : TypeId} {n : Nat} (h : Opens enc P w d e G β) (hr : OpensAs enc P w b e n G' β') :
    OpensAs enc P w (Kd.pair d b) e (n + 1) (fun p => G p.1 ∧ G' p.2) (fun p => β p.1 + β' p.2) :=
  ⟨fun m cs xs hl hf => by
    match xs, hl with
    | x :: xr, hl =>
      have h0 := hf 0 (by omega)
      rw [Nat.zero_mul, List.drop_zero] at h0
      obtain ⟨y, h1, h2, h3⟩ := h.out m _ x h0
      obtain ⟨z, g1, g2, g3⟩ := hr.out m (cs.drop (P.cellsOf e)) xr (by simpa using hl) (fun i hi => by
        have := hf (i + 1) (by omega)
        rw [Nat.succ_mul] at this
        rw [List.drop_drop, Nat.add_comm (P.cellsOf e)]
        simpa using this)
      rw [h.size] at h1 g1
      refine ⟨(y, z), ⟨_, _, ?_, h1, g1⟩, ⟨h2, g2⟩, by simp only [List.map_cons, Rows.uptoBulkAll]; omega⟩
      show cs.take (d.sz + b.sz) = _
      rw [List.take_add]⟩
/-- An array by its elements in line. -/
theorem Opens.aggA {α : Type} {d : Kd α} {n : Nat} {e t : TypeId} {G : α → Prop} {β : α → Nat} (ht : P.underlying t = some (.array n e)) (hc : P.cellsOf t = d.sz) (h : OpensAs enc P w d e n G β) :
    Opens enc P w d t G (fun y => β y + 1) :=
  ⟨hc, fun fuel cs x hx => by
    obtain ⟨xs, m, rfl, rfl, hl, hxl, hf⟩ := DataW.trod_array ht hx
    obtain ⟨y, h1, h2, h3⟩ := h.out m cs xs hxl hf
    refine ⟨y, ?_, h2, by simp only [Rows.uptoBulk]; omega⟩
    rw [List.take_of_length_le (by omega)] at h1
    exact h1⟩
/-- An array inside a slice's elements: the printed kind of it. -/
theorem Opens.structA {α γ : Type} {d : Kd α} {n : Nat} {e t : TypeId} {G : α → Prop} {β : α → Nat} (ht : P.underlying t = some (.array n e)) (hc : P.cellsOf t = d.sz) (f : γ → α) (g : α → γ) (hfg : ∀ x, f (g x) = x) (h : OpensAs enc P w d e n G β) :
    Opens enc P w (Kd.iso d f) t (fun y => G (f y)) (fun y => β (f y) + 1) :=
  ⟨hc, fun fuel cs x hx => by
    obtain ⟨y, h1, h2, h3⟩ := (Opens.aggA ht hc h).out fuel cs x hx
    refine ⟨g y, ?_, by rw [hfg]; exact h2, by rw [hfg]; exact h3⟩
    show d.K w (f (g y)) cs
    rw [hfg]
    exact h1⟩
/-- An argument that is an array. -/
theorem Opens.arg_aggA {α : Type} {d : Kd α} {t : TypeId} {n : Nat} {e : TypeId} {G : α → Prop} {β : α → Nat} {r : Reach} {b0 : Nat} {v : Value} {dd : DataW H} {ps : List MemPlace}
    (ht : P.underlying t = some (.array n e)) (o : Opens enc P w d t G β) (hv : Value.okWide P w r b0 t v) (h : DataW.Trod enc P w 0 (fun _ => true) true t v dd ps) :
    ∃ (y : α) (cs : Array Value), v = .agg cs ∧ d.K w y cs.toList ∧ G y ∧ β y ≤ Rows.uptoBulk dd := by
  simp only [Value.okWide, ht] at hv
  obtain ⟨cs, rfl, _⟩ := hv
  obtain ⟨fuel, hf⟩ := h
  obtain ⟨y, hK, hG, hb⟩ := o.out fuel _ _ hf
  exact ⟨y, cs, rfl, hK, hG, hb⟩
/-- A struct by its fields in line. -/
theorem Opens.agg {α : Type} {d : Kd α} {fs : Array Field} {t : TypeId} {G : α → Prop} {β : α → Nat} (ht : P.underlying t = some (.struct fs)) (hc : P.cellsOf t = d.sz) (h : OpensFs enc P w d fs.toList 0 G β) :
    Opens enc P w d t G (fun y => β y + 1) :=
  ⟨hc, fun fuel cs x hx => by
    obtain ⟨xs, n, rfl, rfl, hl, hxl, hf⟩ := DataW.trod_struct ht hx
    obtain ⟨y, h1, h2, h3⟩ := h.out n cs xs (by simpa using hxl) (fun i f' hf' => hf i f' (by simpa using hf'))
    refine ⟨y, ?_, h2, by simp only [Rows.uptoBulk]; omega⟩
    rw [List.drop_zero, List.take_of_length_le (by omega)] at h1
    exact h1⟩
end
end Go.Proofs.YteflngoiebgdaaaW.PrintWords
