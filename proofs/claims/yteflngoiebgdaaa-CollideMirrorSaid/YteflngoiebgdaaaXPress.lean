/- Closing scripts that the printed texts repeat: each a fact whose premise closes itself where it is used. -/
import Derived.Test.YteflngoiebgdaaaXShort
namespace Go.Proofs.YteflngoiebgdaaaW.PrintWords
open Go.RowKit Go.Proofs.YteflngoiebgdaaaW.PrintLast Go.Proofs.YteflngoiebgdaaaW.PrintMore
theorem am {p : Prop} (h : p) : Aside0 p := ⟨h⟩
theorem bz {B : Nat} {w W : World} (h : Below B w W := by repeat with_reducible first | exact HB.out | apply bA | apply bN | apply bD | refine bS ?_ (Aside0.out (by assumption))) : Below B w W := h
theorem kz {w W : World} {g : Nat} {o : Obj} (b : Aside0 (w.heap[g]? = some o)) (h : w.heap[g]? = some o → W.heap[g]? = some o := by intro b_; with_reducible repeat first | exact b_ | apply kN | apply kD | apply kA) : W.heap[g]? = some o := h b.out
section
variable {α : Type} {d : Kd α} {e : Nat} {w W : World} {base : Nat} {ok : Nat → Prop} {v : Value} {xs : List α} {A : Option Addr} {n : Nat}
theorem rz (b : Aside0 (d.R e w base ok v xs)) (h : d.R e w base ok v xs → d.R e W base ok v xs := by intro b_; (with_reducible repeat first | apply rA | apply rN | apply rD); exact b_) : d.R e W base ok v xs := h b.out
theorem cz (b : Aside0 (d.C w A n xs)) (h : d.C w A n xs → d.C W A n xs := by intro b_; repeat (first | exact (Kd.C_below b_ HB.out) | (with_reducible first | apply cA | apply cN | apply cD))) : d.C W A n xs := h b.out
end
theorem ez {p : Prop} (h : p := by first | rfl | (simp [errW_none, errW_some] <;> rfl) | (simp [*, errW_none, errW_some] <;> rfl)) : p := h
theorem sz {p : Prop} (h : p := by first | rfl | (simp; done) | (simp [*]; done)) : p := h
theorem mz {p : Prop} (h : p := by (try simp only [List.map_toArray, List.map_cons, List.map_nil]); first | done | rfl | (simp only [List.length_drop, List.length_take]; rfl)) : p := h
theorem yz {p : Prop} (h : p := by rfl) : p := h
theorem gz {p : Prop} (h : p := by first | (go_simp; done) | (go_simp; rfl)) : p := h
theorem qz {p : Prop} (h : p := by kernel_rfl) : p := h
theorem iz {p : Prop} (h : p := by exact fun _ _ _ h => h) : p := h
theorem az {p : Prop} [Decidable p] (h : decide p = true := by first | (with_reducible assumption) | assumption) : p := of_decide_eq_true h
theorem nlt {w W : World} {g g' : Nat} {o : Obj} (b : Aside0 (w.heap[g]? = some o)) (hg : g' = W.heap.size) (h : w.heap[g]? = some o → W.heap[g]? = some o := by intro b_; with_reducible repeat first | exact b_ | apply kN | apply kD | apply kA) : Aside0 (g ≠ g') := ⟨by rw [hg]; exact Nat.ne_of_lt (blk_lt (h b.out))⟩
theorem ngt {w W : World} {g g' : Nat} {o : Obj} (b : Aside0 (w.heap[g]? = some o)) (hg : g' = W.heap.size) (h : w.heap[g]? = some o → W.heap[g]? = some o := by intro b_; with_reducible repeat first | exact b_ | apply kN | apply kD | apply kA) : Aside0 (g' ≠ g) := ⟨by rw [hg]; exact Nat.ne_of_gt (blk_lt (h b.out))⟩
theorem gwz {w w1 W : World} {g : Nat} (_ : Aside0 (Below w.heap.size w w1)) (hg : g = W.heap.size) (h : Below w.heap.size w W := by repeat with_reducible first | exact HB.out | apply bA | apply bN | apply bD | refine bS ?_ (Aside0.out (by assumption))) : Aside0 (w.heap.size ≤ g) := ⟨by rw [hg]; exact below_size h⟩
section
variable {P : Program} {ops : Array Oper} {Q : Exit → Act → World → Prop} {md : Region.Mode} {S : World → Prop} {ds : List Nat} {T : Bool × List (List Nat × List Nat)}
theorem pa {i : Nat} {N : Option Tmp} {oi : Oper} {v : Value} {fuel : Nat} {l : Array Bool} {a a' : Act} {w : World} (l' : Array Bool) (hT : Aside0 (rtab md ops = T)) (h : wpAnyLast P md ops Q S ds fuel l' a' w)
    (hi : ops[i]? = some oi := by exact rfl) (hN : oi.dst = N := by exact rfl) (hc : anyT T l.toList l'.toList i = true := by kernel_rfl) (hQ : ∀ c a w, Q (.panic c) (a.put oi.dst v) w → Q (.panic c) a w := by exact fun _ _ _ h => h)
    (hw : Region.wanted oi (yielded ops a.tmps) = true := by rfl) (hv : ∀ w, (execOp a.eval oi).run P w = .ok (.value v) w := by intro w'; go_simp; with_reducible rfl) (ha : a.put N v = a' := by (simp only [Act.put, aS, lZ, lS, i64_w, i32_w]; rfl)) : wpAnyLast P md ops Q S ds (fuel + 1) l a w :=
  pure_ l' hi hN (any_of hT.out hc) hQ (Or.inl ⟨hw, hv⟩) ha h
theorem pu {i : Nat} {N : Option Tmp} {oi : Oper} {fuel : Nat} {l : Array Bool} {a a' : Act} {w : World} (l' : Array Bool) (hT : Aside0 (rtab md ops = T)) (h : wpAnyLast P md ops Q S ds fuel l' a' w)
    (hi : ops[i]? = some oi := by exact rfl) (hN : oi.dst = N := by exact rfl) (hc : anyT T l.toList l'.toList i = true := by kernel_rfl) (hQ : ∀ c a w, Q (.panic c) (a.put oi.dst undef) w → Q (.panic c) a w := by exact fun _ _ _ h => h)
    (hw : Region.wanted oi (yielded ops a.tmps) = false := by rfl) (ha : a.put N undef = a' := by (simp only [Act.put, aS, lZ, lS, i64_w, i32_w]; rfl)) : wpAnyLast P md ops Q S ds (fuel + 1) l a w :=
  pure_ l' hi hN (any_of hT.out hc) hQ (Or.inr ⟨hw, rfl⟩) ha h
end
end Go.Proofs.YteflngoiebgdaaaW.PrintWords
