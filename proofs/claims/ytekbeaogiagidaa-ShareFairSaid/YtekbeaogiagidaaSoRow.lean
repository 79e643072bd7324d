/- A row of numbers that a sort passes through: what an exchange and a comparison want. -/
import Derived.Test.YtekbeaogiagidaaProg
import Derived.Shelf.SlSortCmp.Kit1
import Derived.Deep.LoopGhost
import Derived.Deep.QuietTactic
import Derived.BigQuiet
import Derived.BigRegion
import Derived.WalkKit
import Derived.KernelRfl
namespace Go.Proofs.Ytekbeaogiagidaa.So
set_option linter.unusedVariables false
set_option linter.unusedSimpArgs false
open Go.Shelf Go.RowKit Go.Lib Go.Sort
/-- A number as it lies in the row. -/
def en (i : Nat) : Value := .int .i64 (i : Int)
theorem en_one : OneCell en := fun _ => rfl
/-- The world W is one of the sort's: the row holds d. -/
abbrev At (w0 : World) (blk : Nat) (d : Array Nat) (W : World) : Prop := SW en w0 blk 0 d W
structure Row (w0 : World) (blk n : Nat) : Prop where
  lt : blk < w0.heap.size
  d0 : ∃ d0 : Array Nat, d0.size = n ∧ Holds en w0 blk 0 d0
  few : n ≤ 100000
theorem Row.one {w0 : World} {blk n : Nat} (R : Row w0 blk n) : ∃ d0, d0.size = n ∧ Row1 en w0 blk 0 d0 := by
  obtain ⟨d0, h1, h2⟩ := R.d0
  exact ⟨d0, h1, ⟨en_one, h2, R.lt⟩⟩
/-- All that an exchange of the places i and j wants. -/
theorem swap_facts {w0 W : World} {blk n : Nat} {d : Array Nat} (R : Row w0 blk n) (hd : d.size = n) (S : At w0 blk d W) {i j : Nat} (hi : i < n) (hj : j < n) :
    ∃ x y : Nat, x = d[i]! ∧ y = d[j]! ∧ W.cell? ⟨blk, i, none⟩ = some (.int .i64 (x : Int)) ∧ W.cell? ⟨blk, j, none⟩ = some (.int .i64 (y : Int)) ∧ W.frozen? ⟨blk, i, none⟩ = false ∧ W.frozen? ⟨blk, j, none⟩ = false ∧
      (∃ u, (W.setCell ⟨blk, i, none⟩ (.int .i64 (y : Int))).cell? ⟨blk, j, none⟩ = some u) ∧ At w0 blk (swp d i j) ((W.setCell ⟨blk, i, none⟩ (.int .i64 (y : Int))).setCell ⟨blk, j, none⟩ (.int .i64 (x : Int))).drew := by
  obtain ⟨d0, hs, R1⟩ := R.one
  have z : ∀ k : Nat, (⟨blk, 0 + k, none⟩ : Addr) = ⟨blk, k, none⟩ := fun k => by rw [Nat.zero_add]
  have a := S.c1 R1 (by omega) i (by omega)
  have b := S.c1 R1 (by omega) j (by omega)
  have c := S.f1 R1 (by omega) i (by omega)
  have e := S.f1 R1 (by omega) j (by omega)
  have f := S.c2 R1 (by omega) i j (by omega) (by omega) (en d[j]!)
  have g := S.swapped R1 i j (by omega) (by omega)
  rw [z] at a b c e
  rw [z, z] at f g
  exact ⟨_, _, rfl, rfl, a, b, c, e, f, g⟩
/-- The row's part [a, a + n) against [b, b + n). -/
def swapR (d : Array Nat) (a b : Nat) : Nat → Array Nat
  | 0 => d
  | k + 1 => swp (swapR d a b k) (a + k) (b + k)
theorem swapR_size (d : Array Nat) (a b : Nat) : ∀ k, (swapR d a b k).size = d.size
  | 0 => rfl
  | k + 1 => by rw [swapR, size_swp, swapR_size d a b k]
set_option maxHeartbeats 4000000 in
set_option maxRecDepth 1000000 in
theorem swapRange_calls (w0 w : World) (blk cap N : Nat) (d : Array Nat) (fv : Value) (R : Row w0 blk N) (hd : d.size = N) (S : At w0 blk d w) (a b n : Nat) (h1 : a + n ≤ N) (h2 : b + n ≤ N) :
    Calls Try.prog 43 #[.slice (some ⟨blk, 0, none⟩) N cap, .int .i64 (a : Int), .int .i64 (b : Int), .int .i64 (n : Int), fv] w fun e w' => e = .returned (.tuple #[]) ∧ At w0 blk (swapR d a b n) w' := by
  have hfew := R.few
  have S0 : Aside (At w0 blk d w) := S
  have HN : Aside (d.size = N) := hd
  clear S hd
  go_enter Try.func43, Try.ntmps43
  go_wp2
  go_loopg [10] n (fun gq v wr => ∃ k : Nat, v = .int .i64 (k : Int) ∧ k ≤ n ∧ n - k ≤ gq ∧ Aside (At w0 blk (swapR d a b k) wr))
  case atStart => exact ⟨0, rfl, Nat.zero_le _, Nat.le_refl _, S0⟩
  case round =>
    clear S0
    obtain ⟨k, rfl, hk, hg, S1⟩ := hrel
    by_cases hlt : k < n
    · have hltz : (k : Int) < (n : Int) := by omega
      obtain ⟨x, y, hx, hy, cx, cy, fx, fy, ⟨u, cu⟩, S2⟩ := swap_facts (i := a + k) (j := b + k) R ((swapR_size d a b k).trans HN.out) S1.out (by omega) (by omega)
      have S3 : Aside (At w0 blk (swapR d a b (k + 1)) _) := S2
      obtain ⟨I, hI⟩ : ∃ I, I = a + k := ⟨_, rfl⟩
      obtain ⟨Jn, hJ⟩ : ∃ Jn, Jn = b + k := ⟨_, rfl⟩
      rw [← hI, ← hJ] at S3 cu
      rw [← hI] at cx fx
      rw [← hJ] at cy fy
      have ei : ((a : Int) + (k : Int)).toNat = I := by omega
      have ej : ((b : Int) + (k : Int)).toNat = Jn := by omega
      have pi : (0 : Int) ≤ (a : Int) + (k : Int) := by omega
      have pj : (0 : Int) ≤ (b : Int) + (k : Int) := by omega
      have bi : (a : Int) + (k : Int) < (N : Int) := by omega
      have bj : (b : Int) + (k : Int) < (N : Int) := by omega
      have wi : IntKind.i64.wrap ((a : Int) + (k : Int)) = (a : Int) + (k : Int) := by rw [IntKind.wrap_i64]; omega
      have wj : IntKind.i64.wrap ((b : Int) + (k : Int)) = (b : Int) + (k : Int) := by rw [IntKind.wrap_i64]; omega
      clear hx hy hI hJ S1 S2
      go_wp2_with fail
      go_big_region
      clear cx cy fx fy cu
      generalize ((wr.setCell ⟨blk, I, none⟩ (.int .i64 (y : Int))).setCell ⟨blk, Jn, none⟩ (.int .i64 (x : Int))).drew = w2 at S3 ⊢
      clear ei ej wi wj
      go_wp2
      go_roundg (n - (k + 1))
      case measure => omega
      case rel => exact ⟨k + 1, by go_num, by omega, Nat.le_refl _, S3⟩
    · obtain rfl : k = n := by omega
      go_wp2
      go_end0
      exact ⟨rfl, S1.out⟩
end Go.Proofs.Ytekbeaogiagidaa.So
