/- There is one sorted order only. -/
import Derived.Test.YtekbeaogiagidaaSoCmp
namespace Go.Proofs.Ytekbeaogiagidaa.So
set_option linter.unusedVariables false
set_option linter.unusedSimpArgs false
theorem Seg.unique {pr : Nat → Nat → Prop} (asy : ∀ {x y}, pr x y → ¬ pr y x) {i l : Nat} {P Q : List Nat} (hp : Seg pr i l P) (hq : Seg pr i l Q) : P = Q :=
  List.Perm.eq_of_pairwise (le := pr) (fun _ _ _ _ h1 h2 => absurd h2 (asy h1)) hp.2 hq.2 (hp.1.trans hq.1.symm)
/-- The sorted order of the numbers 0 .. N-1, larger rests first. -/
def ord (rs : Nat → Nat) (N : Nat) : List Nat := (isr (lt fun i k => cmpz (rs k) (rs i)) (List.range' 0 N)).reverse
theorem ord_seg (rs : Nat → Nat) (N : Nat) : Seg (prR rs) 0 N (ord rs N) := isr_seg (ord_rests rs N) 0 N (by omega)
theorem ord_of {rs : Nat → Nat} {N : Nat} {L : List Nat} (h : Seg (prR rs) 0 N L) : L = ord rs N := h.unique (fun h1 h2 => by unfold prR at h1 h2; omega) (ord_seg rs N)
end Go.Proofs.Ytekbeaogiagidaa.So
