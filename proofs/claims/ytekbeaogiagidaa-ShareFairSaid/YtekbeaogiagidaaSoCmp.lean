/- The comparison that share.Split sorts by, walked: it pays what the sort asks of it. -/
import Derived.Test.YtekbeaogiagidaaSoSort
namespace Go.Proofs.Ytekbeaogiagidaa.So
set_option linter.unusedVariables false
set_option linter.unusedSimpArgs false
open Go.Shelf Go.RowKit Go.Lib Go.Sort
theorem At.other {w0 W : World} {blk : Nat} {d : Array Nat} (h : At w0 blk d W) {a : Addr} (hb : a.block ≠ blk) (hl : a.block < w0.heap.size) (n : Nat) (os : Array Obj) : (grow (W.drewN n) os).cell? a = w0.cell? a := by
  obtain ⟨n', os', h2⟩ : At w0 blk d (grow (W.drewN n) os) := h.grown n os
  rw [h2]
  unfold sortWorld
  rw [cell?_grow _ _ _ (by rw [size_putRow]; exact hl), cell?_putRow_other _ _ _ _ _ _ (.inl hb)]
  rfl
/-- The answer of cmp.Compare. -/
def cmpz (x y : Nat) : Int := if x < y then -1 else if y < x then 1 else 0
set_option maxHeartbeats 8000000 in
set_option maxRecDepth 1000000 in
theorem nan_calls (w : World) (x : Nat) : Calls Try.prog 31 #[.int .u64 (x : Int)] w fun e w' => e = .returned (.bool false) ∧ w' = w := by
  go_enter Try.func31, Try.ntmps31
  go_wp2
  go_ret
  exact ⟨rfl, rfl⟩
set_option maxHeartbeats 8000000 in
set_option maxRecDepth 1000000 in
theorem cmp_calls (w : World) (x y : Nat) : Calls Try.prog 21 #[.int .u64 (x : Int), .int .u64 (y : Int)] w fun e w' => e = .returned (.int .i64 (cmpz x y)) ∧ w' = w := by
  rcases Nat.lt_trichotomy x y with h | h | h
  · have hd : (x : Int) < (y : Int) := by omega
    have hc : cmpz x y = -1 := if_pos h
    rw [hc]
    clear hc h
    go_enter Try.func21, Try.ntmps21
    go_wp2_with (go_at_call 31; refine (nan_calls _ _).mono ?_; rintro e' w2 ⟨rfl, rfl⟩)
    go_ret
    exact ⟨rfl, rfl⟩
  · subst h
    have hc : cmpz x x = 0 := by unfold cmpz; rw [if_neg (Nat.lt_irrefl x), if_neg (Nat.lt_irrefl x)]
    have h1 : ¬ (x : Int) < (x : Int) := by omega
    have h2 : decide ((x : Int) > (x : Int)) = false := decide_eq_false h1
    rw [hc]
    clear hc
    go_enter Try.func21, Try.ntmps21
    go_wp2_with (go_at_call 31; refine (nan_calls _ _).mono ?_; rintro e' w2 ⟨rfl, rfl⟩)
    go_ret
    exact ⟨rfl, rfl⟩
  · have h1 : ¬ (x : Int) < (y : Int) := by omega
    have h2 : decide ((x : Int) > (y : Int)) = true := decide_eq_true (by omega)
    have h3 : (y : Int) < (x : Int) := by omega
    have hc : cmpz x y = 1 := by unfold cmpz; rw [if_neg (by omega), if_pos h]
    rw [hc]
    clear hc h
    go_enter Try.func21, Try.ntmps21
    go_wp2_with (go_at_call 31; refine (nan_calls _ _).mono ?_; rintro e' w2 ⟨rfl, rfl⟩)
    go_ret
    exact ⟨rfl, rfl⟩
theorem cmp_grown (w : World) (x y : Nat) : Calls Try.prog 21 #[.int .u64 (x : Int), .int .u64 (y : Int)] w fun e w' => e = .returned (.int .i64 (cmpz x y)) ∧ ∃ q os', w' = grow (w.drewN q) os' :=
  (cmp_calls w x y).mono fun e w' h => ⟨h.1, 0, #[], by rw [h.2]; simp [grow, World.drewN]⟩
/-- The rests that the comparison reads: their box, their row, neither of them the row that is sorted. -/
structure Rests (w0 : World) (blk bx nr cap N : Nat) (rs : Nat → Nat) : Prop where
  box : w0.cell? ⟨bx, 0, none⟩ = some (.slice (some ⟨nr, 0, none⟩) N cap)
  bne : bx ≠ blk
  blt : bx < w0.heap.size
  row : ∀ k, k < N → w0.cell? ⟨nr, k, none⟩ = some (.int .u64 (rs k : Int))
  nne : nr ≠ blk
  nlt : nr < w0.heap.size
set_option maxHeartbeats 8000000 in
set_option maxRecDepth 1000000 in
theorem closure_ok (w0 : World) (blk bx nr cap N : Nat) (rs : Nat → Nat) (T : Rests w0 blk bx nr cap N rs) : CmpOk 20 #[.pointer (some ⟨bx, 0, none⟩)] (fun i k => cmpz (rs k) (rs i)) w0 blk N := by
  intro d W hd S x y hx hy
  have E : ∀ n os, (grow (W.drewN n) os).cell? ⟨bx, 0, none⟩ = some (.slice (some ⟨nr, 0, none⟩) N cap) := fun n os => (S.other (a := ⟨bx, 0, none⟩) T.bne T.blt n os).trans T.box
  have Ex : ∀ n os, (grow (W.drewN n) os).cell? ⟨nr, x, none⟩ = some (.int .u64 (rs x : Int)) := fun n os => (S.other (a := ⟨nr, x, none⟩) T.nne T.nlt n os).trans (T.row x hx)
  have Ey : ∀ n os, (grow (W.drewN n) os).cell? ⟨nr, y, none⟩ = some (.int .u64 (rs y : Int)) := fun n os => (S.other (a := ⟨nr, y, none⟩) T.nne T.nlt n os).trans (T.row y hy)
  have hc : ∀ n os, Calls Try.prog 21 #[.int .u64 (rs y : Int), .int .u64 (rs x : Int)] (grow (W.drewN n) os) fun e w' => e = .returned (.int .i64 (cmpz (rs y) (rs x))) ∧ ∃ q os', w' = grow ((grow (W.drewN n) os).drewN q) os' := fun n os => cmp_grown _ _ _
  have bi : (x : Int) < (N : Int) := by omega
  have bj : (y : Int) < (N : Int) := by omega
  have mixed : Try.prog.follows .mixedOrders = true := by kernel_rfl
  clear S T hd hx hy
  show Calls Try.prog 20 #[.int .i64 (x : Int), .int .i64 (y : Int), .pointer (some ⟨bx, 0, none⟩)] W fun e w' => e = .returned (.int .i64 (cmpz (rs y) (rs x))) ∧ ∃ q os', w' = grow (W.drewN q) os'
  generalize cmpz (rs y) (rs x) = cz at hc ⊢
  generalize rs x = rx at Ex hc
  generalize rs y = ry at Ey hc
  go_enter Try.func20, Try.ntmps20
  go_wp2_with fail
  go_quiet_grown (first | (go_at_call 21; refine Calls.grown_of (hc _ _)))
  go_wp2
  go_ret
  exact ⟨rfl, nq, osq, rfl⟩
/-- The order that the sort brings about: the larger rest first, of equal ones the earlier. -/
def prR (rs : Nat → Nat) (x y : Nat) : Prop := rs y < rs x ∨ (rs x = rs y ∧ x < y)
theorem cmpz_neg (x y : Nat) : cmpz x y < 0 ↔ x < y := by
  unfold cmpz
  split
  · rename_i h; exact ⟨fun _ => h, fun _ => by omega⟩
  · rename_i h
    split
    · exact ⟨fun h2 => by omega, fun h2 => absurd h2 h⟩
    · exact ⟨fun h2 => by omega, fun h2 => absurd h2 h⟩
theorem ord_rests (rs : Nat → Nat) (N : Nat) : Ord (fun i k => cmpz (rs k) (rs i)) N (prR rs) where
  tr := fun h1 h2 => by unfold prR at h1 h2 ⊢; omega
  asy := fun h1 h2 => by unfold prR at h1 h2; omega
  tot := fun _ _ h => by unfold prR; omega
  cm := fun h _ => by rw [cmpz_neg]; unfold prR; omega
end Go.Proofs.Ytekbeaogiagidaa.So
