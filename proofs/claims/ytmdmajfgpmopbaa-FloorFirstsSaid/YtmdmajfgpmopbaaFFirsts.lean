import Derived.Test.YtmdmajfgpmopbaaX0
import Derived.Test.YtmdmajfgpmopbaaFFirsts53
import Derived.Test.YtmdmajfgpmopbaaX33
import Derived.Test.YtmdmajfgpmopbaaX64
import Derived.Test.YtmdmajfgpmopbaaX9
import Derived.Test.YtmdmajfgpmopbaaX8
import Derived.Test.YtmdmajfgpmopbaaX7
import Derived.Test.YtmdmajfgpmopbaaX6
import Derived.Test.YtmdmajfgpmopbaaX5
import Derived.Test.YtmdmajfgpmopbaaX10
import Derived.Test.YtmdmajfgpmopbaaXWInvWordsMore
import Derived.Test.YtmdmajfgpmopbaaX30
import Derived.Test.YtmdmajfgpmopbaaX29
import Derived.Test.YtmdmajfgpmopbaaX28
import Derived.Test.YtmdmajfgpmopbaaX27
import Derived.Test.YtmdmajfgpmopbaaX26
import Derived.Test.YtmdmajfgpmopbaaX25
import Derived.Test.YtmdmajfgpmopbaaX24
import Derived.Test.YtmdmajfgpmopbaaX23
import Derived.Test.YtmdmajfgpmopbaaX22
import Derived.Test.YtmdmajfgpmopbaaX21
import Derived.Test.YtmdmajfgpmopbaaX31
import Derived.Test.YtmdmajfgpmopbaaX32
import Derived.Test.YtmdmajfgpmopbaaX20
import Derived.Test.YtmdmajfgpmopbaaX19
import Derived.Test.YtmdmajfgpmopbaaX18
import Derived.Test.YtmdmajfgpmopbaaX42
import Derived.Test.YtmdmajfgpmopbaaX41
import Derived.Test.YtmdmajfgpmopbaaX40
import Derived.Test.YtmdmajfgpmopbaaX39
import Derived.Test.YtmdmajfgpmopbaaX38
import Derived.Test.YtmdmajfgpmopbaaX37
import Derived.Test.YtmdmajfgpmopbaaX60
import Derived.Test.YtmdmajfgpmopbaaX59
import Derived.Test.YtmdmajfgpmopbaaX58
import Derived.Test.YtmdmajfgpmopbaaX57
import Derived.Test.YtmdmajfgpmopbaaX56
import Derived.Test.YtmdmajfgpmopbaaX55
import Derived.Test.YtmdmajfgpmopbaaX54
import Derived.Test.YtmdmajfgpmopbaaX53
import Derived.Test.YtmdmajfgpmopbaaX52
import Derived.Test.YtmdmajfgpmopbaaX51
import Derived.Test.YtmdmajfgpmopbaaX61
import Derived.Test.YtmdmajfgpmopbaaX62
import Derived.Test.YtmdmajfgpmopbaaX50
import Derived.Test.YtmdmajfgpmopbaaX49
import Derived.Test.YtmdmajfgpmopbaaX63
import Derived.Test.YtmdmajfgpmopbaaRows
import Derived.Test.YtmdmajfgpmopbaaXOpen
import Derived.WalkKit
import Derived.ProofKit
import Derived.OpenShut
import Derived.ShutString
import Derived.ChangeOld
import Derived.Below
import Derived.SizedLaws
import Derived.JoinedCond
import Derived.Carry
namespace Go.Proofs.Ytmdmajfgpmopbaa.X
open Go.RowKit YtmdmajfgpmopbaaW.PrintWords YtmdmajfgpmopbaaW.PrintLast YtmdmajfgpmopbaaW.PrintMore
attribute [local go_sem] max2_int min2_int max_two min_two max_three min_three max_four min_four
set_option linter.unusedVariables false
set_option linter.unusedSimpArgs false

/-! ### dancestudiolaw43_awake: function 10 -/
def dancestudiolaw43_awake.f : Option (Bool) := some true
def dancestudiolaw43_awake.P (p : Int × Int) : S53 := ⟨⟨p.1, p.2⟩, 0, 0, ⟨⟨0, (-64), 0⟩, ⟨0, (-64), 0⟩, ⟨0, 64, 0⟩, ⟨0, (-64), 0⟩, ⟨0, (-64), 0⟩, ⟨0, 64, 0⟩⟩⟩
def dancestudiolaw43_awake.pc (p : Int × Int) : List Value := [.int .i64 p.1, .int .i64 p.2, .int .i64 0, .int .i64 0, .int .i64 0, .int .i64 (-64), .int .i64 0, .int .i64 0, .int .i64 (-64), .int .i64 0, .int .i64 0, .int .i64 64, .int .i64 0, .int .i64 0, .int .i64 (-64), .int .i64 0, .int .i64 0, .int .i64 (-64), .int .i64 0, .int .i64 0, .int .i64 64, .int .i64 0]
theorem dancestudiolaw43_awake.pose (a b : Int) (w : World) : Calls Try.prog 26 #[.int .i64 a, .int .i64 b] w fun e w' => e = .returned (.agg #[.int .i64 a, .int .i64 b, .int .i64 0, .int .i64 0, .int .i64 0, .int .i64 (-64), .int .i64 0, .int .i64 0, .int .i64 (-64), .int .i64 0, .int .i64 0, .int .i64 64, .int .i64 0, .int .i64 0, .int .i64 (-64), .int .i64 0, .int .i64 0, .int .i64 (-64), .int .i64 0, .int .i64 0, .int .i64 64, .int .i64 0]) ∧ Below w.heap.size w w' := dancestudiolaw43_pose.calls a b _ _ _ _ _ _ _ _ _ _ _ _ _ _ _ _ _ _ _ _ _ _ w rfl
theorem dancestudiolaw43_awake.reps (W : World) (base : Nat) (okp : Nat → Prop) : ∀ l : List (Int × Int), Reps (k53.M W base okp) k53.sz (l.map dancestudiolaw43_awake.P) (l.flatMap dancestudiolaw43_awake.pc)
  | [] => Reps.none _ _
  | x :: l => Reps.front (show Kd.M k53 _ _ _ (dancestudiolaw43_awake.P x) (dancestudiolaw43_awake.pc x) from k53_mkM _ _ _ (dancestudiolaw43_awake.P x)) rfl (dancestudiolaw43_awake.reps W base okp l) rfl
theorem dancestudiolaw43_awake.of (k : Nat) (xs : List S53) (ys : List Int) (A : Option Addr) (c base : Nat) (w : World) (HO : Kd.R k53 53 w base (fun _ => True) (.slice A xs.length c) xs) (h : dancestudiolaw43_of.f k xs = some (xs, ys)) :
    Calls Try.prog 25 #[.slice A xs.length c] w fun e w' => ∃ A0 c0 A1 c1, e = .returned (.agg #[.slice A0 xs.length c0, .slice A1 ys.length c1]) ∧ xs.length ≤ c0 ∧ ys.length ≤ c1 ∧ Kd.C k53 w' A0 xs.length xs ∧ Kd.C (Kd.int .i64) w' A1 ys.length ys ∧ Below w.heap.size w w' :=
  (dancestudiolaw43_of.calls k (fun _ => True) A c xs xs ys w (Kd.R_V HO) h).mono (by
    rintro e w' ⟨v0, v1, rfl, h0, h1, hb⟩
    obtain ⟨A0, c0, rfl⟩ := Kd.V_slice h0
    obtain ⟨A1, c1, rfl, hl, hr⟩ := Kd.R_reads h1
    exact ⟨A0, c0, A1, c1, rfl, (Kd.V_reads' h0).2.1, hl, (Kd.V_reads' h0).2.2, hr, hb⟩)
def dancestudiolaw43_awake.m1 : List S53 := ([(0, 0), (2, 0), (4, 0), (4, 3)] : List (Int × Int)).map dancestudiolaw43_awake.P
def dancestudiolaw43_awake.m2 : List S53 := ([(0, 500), (0, 500)] : List (Int × Int)).map dancestudiolaw43_awake.P
def dancestudiolaw43_awake.m3 : List S53 := ([(0, 500), (0, 500), (250, 500)] : List (Int × Int)).map dancestudiolaw43_awake.P
def dancestudiolaw43_awake.y1 : List Int := [3, 3, 3]
def dancestudiolaw43_awake.y2 : List Int := [3]
def dancestudiolaw43_awake.y3 : List Int := [3, 3]
def dancestudiolaw43_awake.t1 : List Int := [0, 2, 3]
def dancestudiolaw43_awake.p1 : List S35 := [⟨0, 0⟩, ⟨4, 0⟩, ⟨4, 3⟩]
def dancestudiolaw43_awake.b0 : List S64 := []
def dancestudiolaw43_awake.b1 : List S64 := [⟨⟨0, 900⟩, 101⟩]
theorem dancestudiolaw43_awake.o1 : dancestudiolaw43_of.f 40 dancestudiolaw43_awake.m1 = some (dancestudiolaw43_awake.m1, dancestudiolaw43_awake.y1) := by kernel_rfl
theorem dancestudiolaw43_awake.o2 : dancestudiolaw43_of.f 40 dancestudiolaw43_awake.m2 = some (dancestudiolaw43_awake.m2, dancestudiolaw43_awake.y2) := by kernel_rfl
theorem dancestudiolaw43_awake.o3 : dancestudiolaw43_of.f 40 dancestudiolaw43_awake.m3 = some (dancestudiolaw43_awake.m3, dancestudiolaw43_awake.y3) := by kernel_rfl
theorem dancestudiolaw43_awake.e1 : floor_Path.f 40 dancestudiolaw43_awake.m1 dancestudiolaw43_awake.y1 = some (dancestudiolaw43_awake.p1, dancestudiolaw43_awake.t1, 0) := by kernel_rfl
theorem dancestudiolaw43_awake.e2 : floor_Box.f 40 dancestudiolaw43_awake.m1 dancestudiolaw43_awake.y1 = some (0, 0, 4, 3, 0) := by kernel_rfl
theorem dancestudiolaw43_awake.e3 : floor_Way.f 40 dancestudiolaw43_awake.m1 dancestudiolaw43_awake.y1 = some (7, 0) := by kernel_rfl
theorem dancestudiolaw43_awake.e4 : dancestudioref25_Ints.f 40 dancestudiolaw43_awake.t1 dancestudiolaw43_awake.t1 = some true := by kernel_rfl
theorem dancestudiolaw43_awake.e5 : dancestudioref43_Same.f 40 dancestudiolaw43_awake.p1 dancestudiolaw43_awake.p1 = some true := by kernel_rfl
theorem dancestudiolaw43_awake.e6 : floor_First.f 40 1000 1000 dancestudiolaw43_awake.b0 dancestudiolaw43_awake.m2 dancestudiolaw43_awake.y2 300 = some (-1, 0, 0, 0) := by kernel_rfl
theorem dancestudiolaw43_awake.e7 : floor_First.f 40 1000 1000 dancestudiolaw43_awake.b0 dancestudiolaw43_awake.m3 dancestudiolaw43_awake.y3 300 = some (1, 0, -1, 0) := by kernel_rfl
theorem dancestudiolaw43_awake.e8 : floor_First.f 40 1000 1000 dancestudiolaw43_awake.b1 dancestudiolaw43_awake.m2 dancestudiolaw43_awake.y2 300 = some (0, 0, 0, 0) := by kernel_rfl
/-- What the regions that draw keep: the stage's variable, and what lay at the call. -/
def dancestudiolaw43_awake.RS (w : World) (ks : List (Nat × Obj)) (g : Nat) (c : Value) (W : World) : Prop := W.heap[g]? = some (.cells #[.int .i64 1000, .int .i64 1000, c] 42 (0, 0)) ∧ w.heap.size ≤ g ∧ Below w.heap.size w W ∧ ∀ p ∈ ks, W.heap[p.1]? = some p.2 ∧ p.2 ≠ .cells #[.int .i64 0, .int .i64 0, .int .i64 0] 44 (0, 0)
theorem dancestudiolaw43_awake.keepC {ks : List (Nat × Obj)} {w : World} {g : Nat} {c : Value} {W W2 : World} (h : dancestudiolaw43_awake.RS w ks g c W) (hb : Below W.heap.size W W2) : dancestudiolaw43_awake.RS w ks g c W2 := ⟨blk_below h.1 hb, h.2.1, below_step h.2.2.1 hb, fun p hp => ⟨blk_below (h.2.2.2 p hp).1 hb, (h.2.2.2 p hp).2⟩⟩
theorem dancestudiolaw43_awake.keepA {ks : List (Nat × Obj)} {w : World} {g : Nat} {c : Value} {W : World} (h : dancestudiolaw43_awake.RS w ks g c W) (o : Obj) : dancestudiolaw43_awake.RS w ks g c (W.alloc o) := dancestudiolaw43_awake.keepC h (below_alloc (Below.refl _ _) o)
theorem dancestudiolaw43_awake.cells {ks : List (Nat × Obj)} {w : World} {g : Nat} {c : Value} {W : World} (h : dancestudiolaw43_awake.RS w ks g c W) : W.cell? ⟨g, 0, none⟩ = some (.int .i64 1000) ∧ W.cell? ⟨g, 1, none⟩ = some (.int .i64 1000) ∧ W.cell? ⟨g, 2, none⟩ = some c := ⟨(blk_cell h.1 0).trans rfl, (blk_cell h.1 1).trans rfl, (blk_cell h.1 2).trans rfl⟩
theorem dancestudiolaw43_awake.sizes {ks : List (Nat × Obj)} {w : World} {g : Nat} {c : Value} {W : World} (h : dancestudiolaw43_awake.RS w ks g c W) : g < W.heap.size ∧ w.heap.size ≤ W.heap.size := ⟨blk_lt h.1, h.2.2.1.size⟩
theorem dancestudiolaw43_awake.litR (W : World) (l : List (Int × Int)) (hl : l.length ≤ 100) : Kd.R k53 53 (W.alloc (.cells (l.flatMap dancestudiolaw43_awake.pc).toArray 53)) W.heap.size (fun _ => True) (.slice (some ⟨W.heap.size, 0, none⟩) l.length l.length) (l.map dancestudiolaw43_awake.P) := by
  have hrep := dancestudiolaw43_awake.reps W W.heap.size (fun _ => True) l
  refine ⟨fun k hk => trivial, l.flatMap dancestudiolaw43_awake.pc, ?_, ?_⟩
  · have h2 := World.ownsRow_lit (base := W.heap.size) (e := 53) (size := k53.sz) W (l.flatMap dancestudiolaw43_awake.pc).toArray l.length (Nat.le_refl _) (by simpa [maxLen] using (by omega)) (by simpa using hrep.1)
    simpa using h2
  · refine hrep.imp_ (fun p c hp => Kd.M_mono k53 (fun k hk => ⟨trivial, fun he => ?_⟩) (Kd.M_below (Kd.M_bound k53 hp) (below_alloc (Below.refl _ _) _)))
    have h3 : k = W.heap.size := by simpa [Value.ownBlock] using he
    have := hk.2.2.1
    omega
theorem blk_farO {w : World} {g : Nat} {o : Obj} (h : w.heap[g]? = some o) {p : Addr} (hp : g ≠ p.block) (u : Value) : (w.setCell p u).heap[g]? = some o := (Below.heap_setCell w p u g hp).trans h
theorem dancestudiolaw43_awake.kC {ks : List (Nat × Obj)} {w : World} {g : Nat} {c : Value} {W W2 : World} (h : (W.cell? ⟨g, 0, none⟩ = some (.int .i64 1000) ∧ W.cell? ⟨g, 1, none⟩ = some (.int .i64 1000) ∧ W.cell? ⟨g, 2, none⟩ = some c) ∧ dancestudiolaw43_awake.RS w ks g c W) (hb : Below W.heap.size W W2) : (W2.cell? ⟨g, 0, none⟩ = some (.int .i64 1000) ∧ W2.cell? ⟨g, 1, none⟩ = some (.int .i64 1000) ∧ W2.cell? ⟨g, 2, none⟩ = some c) ∧ dancestudiolaw43_awake.RS w ks g c W2 := ⟨dancestudiolaw43_awake.cells (dancestudiolaw43_awake.keepC h.2 hb), dancestudiolaw43_awake.keepC h.2 hb⟩
theorem dancestudiolaw43_awake.kD {ks : List (Nat × Obj)} {w : World} {g : Nat} {c : Value} {W : World} (h : (W.cell? ⟨g, 0, none⟩ = some (.int .i64 1000) ∧ W.cell? ⟨g, 1, none⟩ = some (.int .i64 1000) ∧ W.cell? ⟨g, 2, none⟩ = some c) ∧ dancestudiolaw43_awake.RS w ks g c W) : (W.drew.cell? ⟨g, 0, none⟩ = some (.int .i64 1000) ∧ W.drew.cell? ⟨g, 1, none⟩ = some (.int .i64 1000) ∧ W.drew.cell? ⟨g, 2, none⟩ = some c) ∧ dancestudiolaw43_awake.RS w ks g c W.drew := ⟨h.1, h.2.1, h.2.2.1, below_drew1 h.2.2.2.1, h.2.2.2.2⟩
theorem dancestudiolaw43_awake.kAA {ks : List (Nat × Obj)} {w : World} {g : Nat} {c : Value} {W : World} (h : ((W.alloc (.cells #[.int .i64 0, .int .i64 0, .int .i64 0] 44 (0, 0))).cell? ⟨g, 0, none⟩ = some (.int .i64 1000) ∧ (W.alloc (.cells #[.int .i64 0, .int .i64 0, .int .i64 0] 44 (0, 0))).cell? ⟨g, 1, none⟩ = some (.int .i64 1000) ∧ (W.alloc (.cells #[.int .i64 0, .int .i64 0, .int .i64 0] 44 (0, 0))).cell? ⟨g, 2, none⟩ = some c) ∧ dancestudiolaw43_awake.RS w ks g c (W.alloc (.cells #[.int .i64 0, .int .i64 0, .int .i64 0] 44 (0, 0)))) (o : Obj) : ((W.alloc o).cell? ⟨g, 0, none⟩ = some (.int .i64 1000) ∧ (W.alloc o).cell? ⟨g, 1, none⟩ = some (.int .i64 1000) ∧ (W.alloc o).cell? ⟨g, 2, none⟩ = some c) ∧ dancestudiolaw43_awake.RS w ks g c (W.alloc o) := by
  obtain ⟨_, h1, h2, h3, h4⟩ := h
  have hne : g ≠ W.heap.size := fun e => by
    subst e
    rw [blk_new] at h1
    injection h1 with h1
    injection h1 with _ h1
    exact absurd h1 (by decide)
  have hlt : g < W.heap.size := by
    have := blk_lt h1
    rw [World.size_alloc] at this
    omega
  have hW : W.heap[g]? = some (.cells #[.int .i64 1000, .int .i64 1000, c] 42 (0, 0)) := (Below.heap_alloc W _ g hlt).symm.trans h1
  suffices hR : dancestudiolaw43_awake.RS w ks g c W by exact dancestudiolaw43_awake.kC ⟨dancestudiolaw43_awake.cells hR, hR⟩ (below_alloc (Below.refl _ _) o)
  refine ⟨hW, h2, ⟨h3.os, h3.tape, h3.output, by omega, fun k hk => (Below.heap_alloc W _ k (by omega)).symm.trans (h3.block k hk)⟩, fun p hp => ⟨?_, (h4 p hp).2⟩⟩
  have hp1 := (h4 p hp).1
  have hpn : p.1 ≠ W.heap.size := fun e => by
    rw [e, blk_new] at hp1
    injection hp1 with hp1
    exact (h4 p hp).2 hp1.symm
  have hpl := blk_lt hp1
  rw [World.size_alloc] at hpl
  exact (Below.heap_alloc W _ p.1 (by omega)).symm.trans hp1
theorem dancestudiolaw43_awake.kA {ks : List (Nat × Obj)} {w : World} {g : Nat} {c : Value} {W : World} (h : (W.cell? ⟨g, 0, none⟩ = some (.int .i64 1000) ∧ W.cell? ⟨g, 1, none⟩ = some (.int .i64 1000) ∧ W.cell? ⟨g, 2, none⟩ = some c) ∧ dancestudiolaw43_awake.RS w ks g c W) (o : Obj) : ((W.alloc o).cell? ⟨g, 0, none⟩ = some (.int .i64 1000) ∧ (W.alloc o).cell? ⟨g, 1, none⟩ = some (.int .i64 1000) ∧ (W.alloc o).cell? ⟨g, 2, none⟩ = some c) ∧ dancestudiolaw43_awake.RS w ks g c (W.alloc o) := dancestudiolaw43_awake.kC h (below_alloc (Below.refl _ _) o)
def dancestudiolaw43_awake.HitAt (w : World) (ks : List (Nat × Obj)) (g : Nat) (c : Value) (a b d : Int) (e p : Value) (W : World) : Prop := e = .int .i64 0 ∧ ∃ n, p = .pointer (some ⟨n, 0, none⟩) ∧ W.heap[n]? = some (.cells #[.int .i64 a, .int .i64 b, .int .i64 d] 44 (0, 0)) ∧ g ≠ n ∧ w.heap.size ≤ n ∧ dancestudiolaw43_awake.RS w ks g c W
theorem dancestudiolaw43_awake.setc {w W : World} {ks : List (Nat × Obj)} {g : Nat} {c : Value} (h : dancestudiolaw43_awake.RS w ks g c W) (hk : ∀ p ∈ ks, p.2 ≠ .cells #[.int .i64 1000, .int .i64 1000, c] 42 (0, 0)) (v : Value) : dancestudiolaw43_awake.RS w ks g v (W.setCell ⟨g, 2, none⟩ v) := by
  refine ⟨blk_put h.1 2 v rfl, h.2.1, below_set h.2.2.1 h.2.1, fun p hp => ⟨?_, (h.2.2.2 p hp).2⟩⟩
  have hne : p.1 ≠ g := fun e => by
    have h5 := (h.2.2.2 p hp).1
    rw [e, h.1] at h5
    injection h5 with h5
    exact hk p hp h5.symm
  exact blk_farO (h.2.2.2 p hp).1 hne v
theorem dancestudiolaw43_awake.blkC {w W : World} {ks : List (Nat × Obj)} {g gb : Nat} {c : Value} (h : ((W).cell? ⟨g, 0, none⟩ = some (.int .i64 1000) ∧ (W).cell? ⟨g, 1, none⟩ = some (.int .i64 1000) ∧ (W).cell? ⟨g, 2, none⟩ = some c) ∧ dancestudiolaw43_awake.RS w ks g c (W)) (hm : (gb, Obj.cells #[.int .i64 0, .int .i64 900, .int .i64 101] 64 (0, 0)) ∈ ks) : Kd.C k64 W (some ⟨gb, 0, none⟩) dancestudiolaw43_awake.b1.length dancestudiolaw43_awake.b1 := by
  have hb := (h.2.2.2.2 _ hm).1
  refine ⟨rfl, by decide, fun _ => ⟨_, rfl, fun j p hj => ?_⟩⟩
  cases j with
  | succ j => simp [dancestudiolaw43_awake.b1] at hj
  | zero =>
    have hp : p = ⟨⟨0, 900⟩, 101⟩ := by simpa [dancestudiolaw43_awake.b1] using hj.symm
    subst hp
    refine ⟨[.int .i64 0, .int .i64 900, .int .i64 101], rfl, k64_mk _ _, fun i u hu => ?_⟩
    rw [Addr.add_mid, blk_cell hb]
    simpa using hu
section
variable {P : Program} {ops : Array Oper} {rest : List Oper} {o : Oper} {a : Act} {Q : Exit → Act → World → Prop}
theorem dancestudiolaw43_awake.lit_event {W : World} (hgd : o.guard = none) {N : Tmp} (_hd : o.dst = some N) {n : Nat} {cs : Array Value} {t : TypeId}
    (hrun : (execOp a.eval o).run P W = .ok (.value (.slice (some ⟨W.heap.size, 0, none⟩) n n)) (W.alloc (.cells cs t (0, 0))))
    (h : ∀ g, g = W.heap.size → ∀ w1, w1.heap[g]? = some (.cells cs t (0, 0)) → Below W.heap.size W w1 → wpList P ops Q rest (a.put o.dst (.slice (some ⟨g, 0, none⟩) n n)) w1) : wpList P ops Q (o :: rest) a W :=
  Kd.event_run hgd hrun (h _ rfl _ (blk_new W _) (below_alloc (Below.refl _ _) _))
end
theorem dancestudiolaw43_awake.addK {w W : World} {ks : List (Nat × Obj)} {g : Nat} {c : Value} (h : dancestudiolaw43_awake.RS w ks g c W) (n : Nat) (o : Obj) (hn : W.heap[n]? = some o) (ho : o ≠ .cells #[.int .i64 0, .int .i64 0, .int .i64 0] 44 (0, 0)) : dancestudiolaw43_awake.RS w ((n, o) :: ks) g c W := ⟨h.1, h.2.1, h.2.2.1, fun p hp => by
  rcases List.mem_cons.1 hp with e | hp
  · subst e; exact ⟨hn, ho⟩
  · exact h.2.2.2 p hp⟩
theorem dancestudiolaw43_awake.litR2 (X : World) (o : Obj) (l : List (Int × Int)) (hl : l.length ≤ 100) : Kd.R k53 53 ((X.alloc o).alloc (.cells (l.flatMap dancestudiolaw43_awake.pc).toArray 53)) (X.heap.size + 1) (fun _ => True) (.slice (some ⟨X.heap.size + 1, 0, none⟩) l.length l.length) (l.map dancestudiolaw43_awake.P) := by
  have h := dancestudiolaw43_awake.litR (X.alloc o) l hl
  rwa [World.size_alloc] at h
theorem dancestudiolaw43_awake.newb {X w2 : World} {cs : Array Value} (hb : Below (X.alloc (.cells cs 44 (0, 0))).heap.size (X.alloc (.cells cs 44 (0, 0))) w2) : w2.heap[X.heap.size]? = some (.cells cs 44 (0, 0)) := blk_below (blk_new X _) hb
theorem dancestudiolaw43_awake.newb2 {X w2 : World} {cs : Array Value} {o : Obj} (hb : Below ((X.alloc (.cells cs 44 (0, 0))).alloc o).heap.size ((X.alloc (.cells cs 44 (0, 0))).alloc o) w2) : w2.heap[X.heap.size]? = some (.cells cs 44 (0, 0)) := blk_below (blk_alloc (blk_new X _) o) hb
theorem dancestudiolaw43_awake.newn {ks : List (Nat × Obj)} {w X : World} {g : Nat} {c : Value} {cs : Array Value} (h : ((X.alloc (.cells cs 44 (0, 0))).cell? ⟨g, 0, none⟩ = some (.int .i64 1000) ∧ (X.alloc (.cells cs 44 (0, 0))).cell? ⟨g, 1, none⟩ = some (.int .i64 1000) ∧ (X.alloc (.cells cs 44 (0, 0))).cell? ⟨g, 2, none⟩ = some c) ∧ dancestudiolaw43_awake.RS w ks g c (X.alloc (.cells cs 44 (0, 0)))) : w.heap.size ≤ X.heap.size := by
  obtain ⟨_, h1, h2, h3, h4⟩ := h
  have hne : g ≠ X.heap.size := fun e => by
    subst e
    rw [blk_new] at h1
    injection h1 with h1
    injection h1 with _ h1
    exact absurd h1 (by decide)
  have := blk_lt h1
  rw [World.size_alloc] at this
  omega
theorem dancestudiolaw43_awake.newn2 {ks : List (Nat × Obj)} {w X : World} {g : Nat} {c : Value} {cs ds : Array Value} (h : (((X.alloc (.cells cs 44 (0, 0))).alloc (.cells ds 53 (0, 0))).cell? ⟨g, 0, none⟩ = some (.int .i64 1000) ∧ ((X.alloc (.cells cs 44 (0, 0))).alloc (.cells ds 53 (0, 0))).cell? ⟨g, 1, none⟩ = some (.int .i64 1000) ∧ ((X.alloc (.cells cs 44 (0, 0))).alloc (.cells ds 53 (0, 0))).cell? ⟨g, 2, none⟩ = some c) ∧ dancestudiolaw43_awake.RS w ks g c ((X.alloc (.cells cs 44 (0, 0))).alloc (.cells ds 53 (0, 0)))) : w.heap.size ≤ X.heap.size := by
  obtain ⟨_, h1, h2, h3, h4⟩ := h
  have hne : g ≠ X.heap.size := fun e => by
    subst e
    rw [blk_alloc (blk_new X _)] at h1
    injection h1 with h1
    injection h1 with _ h1
    exact absurd h1 (by decide)
  have hne2 : g ≠ (X.alloc (.cells cs 44 (0, 0))).heap.size := fun e => by
    subst e
    rw [blk_new] at h1
    injection h1 with h1
    injection h1 with _ h1
    exact absurd h1 (by decide)
  have := blk_lt h1
  rw [World.size_alloc] at hne2
  rw [World.size_alloc, World.size_alloc] at this
  omega
theorem dancestudiolaw43_awake.undrew {ks : List (Nat × Obj)} {w W : World} {g : Nat} {c : Value} (h : ((W.drew).cell? ⟨g, 0, none⟩ = some (.int .i64 1000) ∧ (W.drew).cell? ⟨g, 1, none⟩ = some (.int .i64 1000) ∧ (W.drew).cell? ⟨g, 2, none⟩ = some c) ∧ dancestudiolaw43_awake.RS w ks g c (W.drew)) : ((W).cell? ⟨g, 0, none⟩ = some (.int .i64 1000) ∧ (W).cell? ⟨g, 1, none⟩ = some (.int .i64 1000) ∧ (W).cell? ⟨g, 2, none⟩ = some c) ∧ dancestudiolaw43_awake.RS w ks g c (W) := ⟨h.1, h.2.1, h.2.2.1, ⟨h.2.2.2.1.os, h.2.2.2.1.tape, h.2.2.2.1.output, h.2.2.2.1.size, h.2.2.2.1.block⟩, h.2.2.2.2⟩
theorem dancestudiolaw43_awake.kAD {ks : List (Nat × Obj)} {w W : World} {g : Nat} {c : Value} (h : ((W.drew).cell? ⟨g, 0, none⟩ = some (.int .i64 1000) ∧ (W.drew).cell? ⟨g, 1, none⟩ = some (.int .i64 1000) ∧ (W.drew).cell? ⟨g, 2, none⟩ = some c) ∧ dancestudiolaw43_awake.RS w ks g c (W.drew)) (o : Obj) : (((W.alloc o).drew).cell? ⟨g, 0, none⟩ = some (.int .i64 1000) ∧ ((W.alloc o).drew).cell? ⟨g, 1, none⟩ = some (.int .i64 1000) ∧ ((W.alloc o).drew).cell? ⟨g, 2, none⟩ = some c) ∧ dancestudiolaw43_awake.RS w ks g c ((W.alloc o).drew) := dancestudiolaw43_awake.kD (dancestudiolaw43_awake.kA (dancestudiolaw43_awake.undrew h) o)
theorem dancestudiolaw43_awake.newb3 {X w2 : World} {cs : Array Value} (hb : Below (X.alloc (.cells cs 44 (0, 0))).drew.heap.size (X.alloc (.cells cs 44 (0, 0))).drew w2) : w2.heap[X.heap.size]? = some (.cells cs 44 (0, 0)) := dancestudiolaw43_awake.newb ⟨hb.os, hb.tape, hb.output, hb.size, hb.block⟩
theorem dancestudiolaw43_awake.newn3 {ks : List (Nat × Obj)} {w X : World} {g : Nat} {c : Value} {cs : Array Value} (h : (((X.alloc (.cells cs 44 (0, 0))).drew).cell? ⟨g, 0, none⟩ = some (.int .i64 1000) ∧ ((X.alloc (.cells cs 44 (0, 0))).drew).cell? ⟨g, 1, none⟩ = some (.int .i64 1000) ∧ ((X.alloc (.cells cs 44 (0, 0))).drew).cell? ⟨g, 2, none⟩ = some c) ∧ dancestudiolaw43_awake.RS w ks g c ((X.alloc (.cells cs 44 (0, 0))).drew)) : w.heap.size ≤ X.heap.size := dancestudiolaw43_awake.newn (dancestudiolaw43_awake.undrew h)
theorem dancestudiolaw43_awake.kc3 {W : World} {n : Nat} {a b d : Value} (h : W.heap[n]? = some (.cells #[a, b, d] 44 (0, 0))) : W.cell? ⟨n, 0, none⟩ = some a ∧ W.cell? ⟨n, 1, none⟩ = some b ∧ W.cell? ⟨n, 2, none⟩ = some d ∧ W.frozen? ⟨n, 0, none⟩ = false ∧ W.frozen? ⟨n, 1, none⟩ = false ∧ W.frozen? ⟨n, 2, none⟩ = false := ⟨(blk_cell h 0).trans rfl, (blk_cell h 1).trans rfl, (blk_cell h 2).trans rfl, blk_frozen h 0, blk_frozen h 1, blk_frozen h 2⟩
theorem dancestudiolaw43_awake.put3 {W : World} {n : Nat} {a b d a' b' d' : Value} (h : W.heap[n]? = some (.cells #[a, b, d] 44 (0, 0))) : (((W.setCell ⟨n, 0, none⟩ a').setCell ⟨n, 1, none⟩ b').setCell ⟨n, 2, none⟩ d').heap[n]? = some (.cells #[a', b', d'] 44 (0, 0)) := blk_put (blk_put (blk_put h 0 a' rfl) 1 b' rfl) 2 d' rfl
theorem dancestudiolaw43_awake.apart {ks : List (Nat × Obj)} {W : World} {n g : Nat} {c : Value} {w : World} {cs : Array Value} (h : dancestudiolaw43_awake.RS w ks g c W) (hn : W.heap[n]? = some (.cells cs 44 (0, 0))) : g ≠ n := fun e => by
  subst e
  have h1 := h.1
  rw [hn] at h1
  injection h1 with h1
  injection h1 with _ h1
  exact absurd h1 (by decide)
theorem dancestudiolaw43_awake.kT9 {ks : List (Nat × Obj)} {w W : World} {g n : Nat} {c : Value} (h : ((W).cell? ⟨g, 0, none⟩ = some (.int .i64 1000) ∧ (W).cell? ⟨g, 1, none⟩ = some (.int .i64 1000) ∧ (W).cell? ⟨g, 2, none⟩ = some c) ∧ dancestudiolaw43_awake.RS w ks g c (W)) (hn : W.heap[n]? = some (.cells #[.int .i64 0, .int .i64 0, .int .i64 0] 44 (0, 0))) (hw : w.heap.size ≤ n) (a' b' d' : Value) : ((((W.setCell ⟨n, 0, none⟩ a').setCell ⟨n, 1, none⟩ b').setCell ⟨n, 2, none⟩ d').cell? ⟨g, 0, none⟩ = some (.int .i64 1000) ∧ (((W.setCell ⟨n, 0, none⟩ a').setCell ⟨n, 1, none⟩ b').setCell ⟨n, 2, none⟩ d').cell? ⟨g, 1, none⟩ = some (.int .i64 1000) ∧ (((W.setCell ⟨n, 0, none⟩ a').setCell ⟨n, 1, none⟩ b').setCell ⟨n, 2, none⟩ d').cell? ⟨g, 2, none⟩ = some c) ∧ dancestudiolaw43_awake.RS w ks g c (((W.setCell ⟨n, 0, none⟩ a').setCell ⟨n, 1, none⟩ b').setCell ⟨n, 2, none⟩ d') := by
  have hne := dancestudiolaw43_awake.apart h.2 hn
  suffices hR : dancestudiolaw43_awake.RS w ks g c (((W.setCell ⟨n, 0, none⟩ a').setCell ⟨n, 1, none⟩ b').setCell ⟨n, 2, none⟩ d') by exact ⟨dancestudiolaw43_awake.cells hR, hR⟩
  refine ⟨blk_far (blk_far (blk_far h.2.1 hne _) hne _) hne _, h.2.2.1, below_set (below_set (below_set h.2.2.2.1 hw) hw) hw, fun p hp => ⟨?_, (h.2.2.2.2 p hp).2⟩⟩
  have hpn : p.1 ≠ n := fun e => by
    have h5 := (h.2.2.2.2 p hp).1
    rw [e, hn] at h5
    injection h5 with h5
    exact (h.2.2.2.2 p hp).2 h5.symm
  exact blk_farO (blk_farO (blk_farO (h.2.2.2.2 p hp).1 hpn _) hpn _) hpn _
theorem dancestudiolaw43_awake.fin {ks : List (Nat × Obj)} {w W : World} {g n : Nat} {c : Value} {a b d : Int} (h : dancestudiolaw43_awake.RS w ks g c W) (hn : W.heap[n]? = some (.cells #[.int .i64 a, .int .i64 b, .int .i64 d] 44 (0, 0))) (hw : w.heap.size ≤ n) : dancestudiolaw43_awake.HitAt w ks g c a b d (.int .i64 0) (.pointer (some ⟨n, 0, none⟩)) W := ⟨rfl, n, rfl, hn, dancestudiolaw43_awake.apart h hn, hw, h⟩
section
variable {P : Program} {ops : Array Oper} {rest : List Oper} {o : Oper} {a : Act} {Q : Exit → Act → World → Prop}
theorem row_guard {W : World} (hw : Region.wanted o (yielded ops a.tmps) = true) (h : wpList P ops Q ({ o with guard := none } :: rest) a W) : wpList P ops Q (o :: rest) a W := by
  have h1 : Region.wanted { o with guard := none } (yielded ops a.tmps) = true := rfl
  unfold wpList at h ⊢
  rw [if_pos h1] at h
  rw [if_pos hw]
  exact h
end
set_option maxHeartbeats 8000000 in
set_option maxRecDepth 100000 in
theorem dancestudiolaw43_awake.calls (r : Bool) (w : World) (h : dancestudiolaw43_awake.f = some r) :
  Calls Try.prog 10 #[] w fun e w' => e = .returned (.bool r) ∧ Below w.heap.size w w' := by
  obtain rfl := Option.some.inj h
  clear h
  have hu0 := Try.underlying25
  have hu1 := Try.underlying35
  have hu2 := Try.underlying42
  have hu3 := Try.underlying44
  have hu4 := Try.underlying64
  have HB := am (Below.refl w.heap.size w)
  go_enter Try.func10, Try.ntmps10
  go_upto_region 10 with (first
    | ((with_reducible refine gate_dst (N := 14) rfl ?_); refine goesL_ (some 14) rfl rfl Try.func26 qz rfl #[.int .i64 0, .int .i64 0] rfl (by (try simp only [List.map_toArray, List.map_cons, List.map_nil]); rfl) ?_; (with_reducible refine (dancestudiolaw43_awake.pose 0 0 _).mono ?_); rintro e w1 ⟨rfl, hb⟩; refine ⟨_, rfl, ?_⟩; replace HB := am (below_step HB.out hb); clear hb)
    | ((with_reducible refine gate_dst (N := 15) rfl ?_); refine goesL_ (some 15) rfl rfl Try.func26 qz rfl #[.int .i64 2, .int .i64 0] rfl (by (try simp only [List.map_toArray, List.map_cons, List.map_nil]); rfl) ?_; (with_reducible refine (dancestudiolaw43_awake.pose 2 0 _).mono ?_); rintro e w2 ⟨rfl, hb⟩; refine ⟨_, rfl, ?_⟩; replace HB := am (below_step HB.out hb); clear hb)
    | ((with_reducible refine gate_dst (N := 16) rfl ?_); refine goesL_ (some 16) rfl rfl Try.func26 qz rfl #[.int .i64 4, .int .i64 0] rfl (by (try simp only [List.map_toArray, List.map_cons, List.map_nil]); rfl) ?_; (with_reducible refine (dancestudiolaw43_awake.pose 4 0 _).mono ?_); rintro e w3 ⟨rfl, hb⟩; refine ⟨_, rfl, ?_⟩; replace HB := am (below_step HB.out hb); clear hb)
    | ((with_reducible refine gate_dst (N := 17) rfl ?_); refine goesL_ (some 17) rfl rfl Try.func26 qz rfl #[.int .i64 4, .int .i64 3] rfl (by (try simp only [List.map_toArray, List.map_cons, List.map_nil]); rfl) ?_; (with_reducible refine (dancestudiolaw43_awake.pose 4 3 _).mono ?_); rintro e w4 ⟨rfl, hb⟩; refine ⟨_, rfl, ?_⟩; replace HB := am (below_step HB.out hb); clear hb)
    | ((with_reducible refine gate_dst (N := 18) rfl ?_); refine Kd.R_lit k53 _ 53 ?hg (N := 18) ?hd (xs := [dancestudiolaw43_awake.P (0, 0), dancestudiolaw43_awake.P (2, 0), dancestudiolaw43_awake.P (4, 0), dancestudiolaw43_awake.P (4, 3)]) (inner := [.int .i64 0, .int .i64 0, .int .i64 0, .int .i64 0, .int .i64 0, .int .i64 (-64), .int .i64 0, .int .i64 0, .int .i64 (-64), .int .i64 0, .int .i64 0, .int .i64 64, .int .i64 0, .int .i64 0, .int .i64 (-64), .int .i64 0, .int .i64 0, .int .i64 (-64), .int .i64 0, .int .i64 0, .int .i64 64, .int .i64 0, .int .i64 2, .int .i64 0, .int .i64 0, .int .i64 0, .int .i64 0, .int .i64 (-64), .int .i64 0, .int .i64 0, .int .i64 (-64), .int .i64 0, .int .i64 0, .int .i64 64, .int .i64 0, .int .i64 0, .int .i64 (-64), .int .i64 0, .int .i64 0, .int .i64 (-64), .int .i64 0, .int .i64 0, .int .i64 64, .int .i64 0, .int .i64 4, .int .i64 0, .int .i64 0, .int .i64 0, .int .i64 0, .int .i64 (-64), .int .i64 0, .int .i64 0, .int .i64 (-64), .int .i64 0, .int .i64 0, .int .i64 64, .int .i64 0, .int .i64 0, .int .i64 (-64), .int .i64 0, .int .i64 0, .int .i64 (-64), .int .i64 0, .int .i64 0, .int .i64 64, .int .i64 0, .int .i64 4, .int .i64 3, .int .i64 0, .int .i64 0, .int .i64 0, .int .i64 (-64), .int .i64 0, .int .i64 0, .int .i64 (-64), .int .i64 0, .int .i64 0, .int .i64 64, .int .i64 0, .int .i64 0, .int .i64 (-64), .int .i64 0, .int .i64 0, .int .i64 (-64), .int .i64 0, .int .i64 0, .int .i64 64, .int .i64 0]) (ok := fun _ => True) (okp := fun _ => True) ?hr (show Reps _ _ _ _ from dancestudiolaw43_awake.reps _ _ _ [(0, 0), (2, 0), (4, 0), (4, 3)]) (fun _ hk => hk) trivial (Below.refl _ _) (Nat.le_refl _) (by decide) ?_; (case hd => rfl); (case hg => rfl); (case hr => first | (go_simp; done) | (go_simp; rfl)); intro v w5 ho hb hg_ hnew_; clear hg_ hnew_; replace ho : Kd.R k53 53 _ _ _ v dancestudiolaw43_awake.m1 := ho; replace HB := am (below_step HB.out hb); obtain ⟨Ao, co, eo⟩ := Kd.R_slice ho; subst eo; have HO := am ho; clear hb ho)
    | ((with_reducible refine gate_dst (N := 19) rfl ?_); refine goesL_ (some 19) rfl rfl Try.func25 qz rfl #[.slice Ao dancestudiolaw43_awake.m1.length co] rfl (by (try simp only [List.map_toArray, List.map_cons, List.map_nil]); rfl) ?_; (with_reducible refine (dancestudiolaw43_awake.of 40 dancestudiolaw43_awake.m1 dancestudiolaw43_awake.y1 Ao co _ _ HO.out dancestudiolaw43_awake.o1).mono ?_); rintro e w6 ⟨A0, c0, A1, c1, rfl, hl0, hl1, hr0, hr1, hb⟩; refine ⟨_, rfl, ?_⟩; have L0 := am hl0; have L1 := am hl1; replace HB := am (below_step HB.out hb); have R0 := am hr0; have R1 := am hr1; clear hb HO hl0 hl1 hr0 hr1)
    | ((with_reducible refine gate_dst (N := 1) rfl ?_); refine box_event yz (N := 1) yz (cs := #[.slice none 0 0, .slice none 0 0]) (t := 25) gz ?_; intro g1 hg w7 hbox hb; have HA1 := am (And.intro hbox (And.intro hb hg)); clear hbox hb hg)
    | ((with_reducible refine row_gate (t := 25) (p := 1) rfl ?_); refine row_event ?h0 25 (.tmp 1) (.tmp 19) ?ho ?hd g1 #[.slice A0 dancestudiolaw43_awake.m1.length c0, .slice A1 dancestudiolaw43_awake.y1.length c1] ?hx ?hy _ _ HA1.out.1 ?hi ?hs ?h1 ?_; (case h0 => rfl); (case ho => rfl); (case hd => rfl); (case hx => first | rfl | (go_simp; rfl)); (case hy => first | rfl | (go_simp; rfl)); (case hi => rfl); (case hs => rfl); (case h1 => simp [Value.oneCell']); intro w8 hbox ho_ hb_; have hb := hb_ _ _ HA1.out.2.1 (Nat.le_of_eq HA1.out.2.2.symm); replace R0 := am (Kd.C_below R0.out hb); replace R1 := am (Kd.C_below R1.out hb); replace HB := am (below_step HB.out hb); have BK1 := am hbox; clear hbox ho_ hb_ hb HA1)
    | ((with_reducible refine gate_dst (N := 21) rfl ?_); refine load_big ?h0 25 (.tmp 1) ?ho ⟨g1, 0, none⟩ ?hx [.slice A0 dancestudiolaw43_awake.m1.length c0, .slice A1 dancestudiolaw43_awake.y1.length c1] _ ?hc Try.underlying25 ?hd ?hi ?_; (case h0 => rfl); (case ho => rfl); (case hx => first | rfl | (go_simp; rfl)); (case hc => exact RowAt.of_block BK1.out rfl); (case hd => rfl); (case hi => rfl))
    | ((with_reducible refine gate_dst (N := 22) rfl ?_); refine goesL_ (some 22) rfl rfl Try.func11 qz rfl #[.agg #[.slice A0 dancestudiolaw43_awake.m1.length c0, .slice A1 dancestudiolaw43_awake.y1.length c1]] rfl (by (try simp only [List.map_toArray, List.map_cons, List.map_nil]); rfl) ?_; (with_reducible refine (floor_Path.calls 40 A0 c0 dancestudiolaw43_awake.m1 A1 c1 dancestudiolaw43_awake.y1 dancestudiolaw43_awake.p1 dancestudiolaw43_awake.t1 0 _ R0.out L0.out R1.out L1.out dancestudiolaw43_awake.e1).mono ?_); rintro e w9 ⟨v1, v2, rfl, ho1, ho2, hb⟩; refine ⟨_, rfl, ?_⟩; obtain ⟨Ap, cp, eo, lp, rp⟩ := Kd.R_reads ho1; subst eo; obtain ⟨At, ct, eo, lt, rt⟩ := Kd.R_reads ho2; subst eo; have LP := am lp; have LT := am lt; replace R0 := am (Kd.C_below R0.out hb); replace R1 := am (Kd.C_below R1.out hb); replace BK1 := am (blk_below BK1.out hb); replace HB := am (below_step HB.out hb); have RP := am rp; have RT := am rt; clear hb ho1 ho2 lp lt rp rt)
    | ((with_reducible refine gate_dst (N := 27) rfl ?_); refine load_big ?h0 25 (.tmp 1) ?ho ⟨g1, 0, none⟩ ?hx [.slice A0 dancestudiolaw43_awake.m1.length c0, .slice A1 dancestudiolaw43_awake.y1.length c1] _ ?hc Try.underlying25 ?hd ?hi ?_; (case h0 => rfl); (case ho => rfl); (case hx => first | rfl | (go_simp; rfl)); (case hc => exact RowAt.of_block BK1.out rfl); (case hd => rfl); (case hi => rfl))
    | ((with_reducible refine gate_dst (N := 28) rfl ?_); refine goesL_ (some 28) rfl rfl Try.func15 qz rfl #[.agg #[.slice A0 dancestudiolaw43_awake.m1.length c0, .slice A1 dancestudiolaw43_awake.y1.length c1]] rfl (by (try simp only [List.map_toArray, List.map_cons, List.map_nil]); rfl) ?_; (with_reducible refine (floor_Box.calls 40 A0 c0 dancestudiolaw43_awake.m1 A1 c1 dancestudiolaw43_awake.y1 0 0 4 3 0 _ R0.out L0.out R1.out L1.out dancestudiolaw43_awake.e2).mono ?_); rintro e w10 ⟨rfl, hb⟩; refine ⟨_, rfl, ?_⟩; replace R0 := am (Kd.C_below R0.out hb); replace R1 := am (Kd.C_below R1.out hb); replace BK1 := am (blk_below BK1.out hb); replace RP := am (Kd.C_below RP.out hb); replace RT := am (Kd.C_below RT.out hb); replace HB := am (below_step HB.out hb); clear hb)
    | ((with_reducible refine gate_dst (N := 5) rfl ?_); refine box_event yz (N := 5) yz (cs := #[.int .i64 0, .int .i64 0]) (t := 35) gz ?_; intro g5 hg w11 hbox hb; have HA5 := am (And.intro hbox (And.intro hb hg)); clear hbox hb hg)
    | ((with_reducible refine gate_dst (N := 6) rfl ?_); refine box_event yz (N := 6) yz (cs := #[.int .i64 0, .int .i64 0]) (t := 35) gz ?_; intro g6 hg w12 hbox hb; have HA6 := am (And.intro hbox (And.intro hb hg)); clear hbox hb hg)
    | ((with_reducible refine row_gate (t := 35) (p := 5) rfl ?_); refine row_event ?h0 35 (.tmp 5) (.tmp 29) ?ho ?hd g5 #[.int .i64 0, .int .i64 0] ?hx ?hy _ _ (blk_below HA5.out.1 HA6.out.2.1) ?hi ?hs ?h1 ?_; (case h0 => rfl); (case ho => rfl); (case hd => rfl); (case hx => first | rfl | (go_simp; rfl)); (case hy => first | rfl | (go_simp; rfl)); (case hi => rfl); (case hs => rfl); (case h1 => simp [Value.oneCell']); intro w13 hbox ho_ hb_; have N56 := am (show g5 ≠ g6 by rw [HA6.out.2.2]; exact Nat.ne_of_lt (blk_lt HA5.out.1)); have HC6 := am ((ho_ g6 N56.out.symm).trans HA6.out.1); have HC5 := am hbox; have HQ := am (hb_ _ _ (below_step HA5.out.2.1 HA6.out.2.1) (Nat.le_of_eq HA5.out.2.2.symm)); have GQ := am (show _ ≤ g6 from Nat.le_trans HA5.out.2.1.size (Nat.le_of_eq HA6.out.2.2.symm)); clear hbox ho_ hb_ HA5 HA6)
    | ((with_reducible refine row_gate (t := 35) (p := 6) rfl ?_); refine row_event ?h0 35 (.tmp 6) (.tmp 30) ?ho ?hd g6 #[.int .i64 4, .int .i64 3] ?hx ?hy _ _ HC6.out ?hi ?hs ?h1 ?_; (case h0 => rfl); (case ho => rfl); (case hd => rfl); (case hx => first | rfl | (go_simp; rfl)); (case hy => first | rfl | (go_simp; rfl)); (case hi => rfl); (case hs => rfl); (case h1 => simp [Value.oneCell']); intro w14 hbox ho_ hb_; have hb := hb_ _ _ HQ.out GQ.out; replace R0 := am (Kd.C_below R0.out hb); replace R1 := am (Kd.C_below R1.out hb); replace BK1 := am (blk_below BK1.out hb); replace RP := am (Kd.C_below RP.out hb); replace RT := am (Kd.C_below RT.out hb); replace HB := am (below_step HB.out hb); have BK5 := am ((ho_ g5 N56.out).trans HC5.out); have BK6 := am hbox; clear hbox ho_ hb_ hb HC5 HC6 HQ GQ N56)
    | ((with_reducible refine gate_dst (N := 33) rfl ?_); refine load_big ?h0 25 (.tmp 1) ?ho ⟨g1, 0, none⟩ ?hx [.slice A0 dancestudiolaw43_awake.m1.length c0, .slice A1 dancestudiolaw43_awake.y1.length c1] _ ?hc Try.underlying25 ?hd ?hi ?_; (case h0 => rfl); (case ho => rfl); (case hx => first | rfl | (go_simp; rfl)); (case hc => exact RowAt.of_block BK1.out rfl); (case hd => rfl); (case hi => rfl))
    | ((with_reducible refine gate_dst (N := 34) rfl ?_); refine goesL_ (some 34) rfl rfl Try.func17 qz rfl #[.agg #[.slice A0 dancestudiolaw43_awake.m1.length c0, .slice A1 dancestudiolaw43_awake.y1.length c1]] rfl (by (try simp only [List.map_toArray, List.map_cons, List.map_nil]); rfl) ?_; (with_reducible refine (floor_Way.calls 40 A0 c0 dancestudiolaw43_awake.m1 A1 c1 dancestudiolaw43_awake.y1 7 0 _ R0.out L0.out R1.out L1.out dancestudiolaw43_awake.e3).mono ?_); rintro e w15 ⟨rfl, hb⟩; refine ⟨_, rfl, ?_⟩; replace R0 := am (Kd.C_below R0.out hb); replace R1 := am (Kd.C_below R1.out hb); replace BK1 := am (blk_below BK1.out hb); replace RP := am (Kd.C_below RP.out hb); replace RT := am (Kd.C_below RT.out hb); replace BK5 := am (blk_below BK5.out hb); replace BK6 := am (blk_below BK6.out hb); replace HB := am (below_step HB.out hb); have z5_0 : w15.cell? ⟨g5, 0, none⟩ = some (.int .i64 0) := (blk_cell BK5.out 0).trans rfl; have z5_1 : w15.cell? ⟨g5, 1, none⟩ = some (.int .i64 0) := (blk_cell BK5.out 1).trans rfl; have z6_0 : w15.cell? ⟨g6, 0, none⟩ = some (.int .i64 4) := (blk_cell BK6.out 0).trans rfl; have z6_1 : w15.cell? ⟨g6, 1, none⟩ = some (.int .i64 3) := (blk_cell BK6.out 1).trans rfl; clear hb)
    | ((with_reducible refine gate_dst (N := 62) rfl ?_); clear z5_0 z5_1 z6_0 z6_1; refine Kd.R_lit (Kd.int .i64) _ 3 ?hg (N := 62) ?hd (xs := [0, 2, 3]) (inner := [.int .i64 0, .int .i64 2, .int .i64 3]) (ok := fun _ => True) (okp := fun _ => True) ?hr (Reps.one (show Kd.M (Kd.int .i64) _ _ _ 0 [.int .i64 0] from rfl) (Reps.one (show Kd.M (Kd.int .i64) _ _ _ 2 [.int .i64 2] from rfl) (Reps.one (show Kd.M (Kd.int .i64) _ _ _ 3 [.int .i64 3] from rfl) (Reps.none _ _)))) (fun _ hk => hk) trivial (Below.refl _ _) (Nat.le_refl _) (by decide) ?_; (case hd => rfl); (case hg => rfl); (case hr => first | (go_simp; done) | (go_simp; rfl)); intro v w16 ho hb hg_ hnew_; clear hg_ hnew_; replace ho : Kd.R (Kd.int .i64) 3 _ _ _ v dancestudiolaw43_awake.t1 := ho; replace R0 := am (Kd.C_below R0.out hb); replace R1 := am (Kd.C_below R1.out hb); replace BK1 := am (blk_below BK1.out hb); replace RP := am (Kd.C_below RP.out hb); replace RT := am (Kd.C_below RT.out hb); replace BK5 := am (blk_below BK5.out hb); replace BK6 := am (blk_below BK6.out hb); replace HB := am (below_step HB.out hb); obtain ⟨Aq, cq, eo, RQl_, RQr_⟩ := Kd.R_reads ho; subst eo; have RQL := am RQl_; have RQ := am RQr_; clear hb ho RQl_ RQr_)
    | ((with_reducible refine gate_dst (N := 63) rfl ?_); refine goesL_ (some 63) rfl rfl Try.func14 qz rfl #[.slice At dancestudiolaw43_awake.t1.length ct, .slice Aq dancestudiolaw43_awake.t1.length cq] rfl (by (try simp only [List.map_toArray, List.map_cons, List.map_nil]); rfl) ?_; (with_reducible refine (dancestudioref25_Ints.calls 40 At ct dancestudiolaw43_awake.t1 Aq cq dancestudiolaw43_awake.t1 true _ RT.out LT.out RQ.out RQL.out dancestudiolaw43_awake.e4).mono ?_); rintro e w17 ⟨rfl, hd⟩; refine ⟨_, rfl, ?_⟩; have hb := hd.below; replace R0 := am (Kd.C_below R0.out hb); replace R1 := am (Kd.C_below R1.out hb); replace BK1 := am (blk_below BK1.out hb); replace RP := am (Kd.C_below RP.out hb); replace RT := am (Kd.C_below RT.out hb); replace BK5 := am (blk_below BK5.out hb); replace BK6 := am (blk_below BK6.out hb); replace RQ := am (Kd.C_below RQ.out hb); replace HB := am (below_step HB.out hb); clear hb hd)
    | ((with_reducible refine gate_dst (N := 70) rfl ?_); (try (refine row_guard (by rfl) ?_; dsimp only)); refine Kd.R_lit k35 _ 35 ?hg (N := 70) ?hd (xs := ([⟨0, 0⟩, ⟨4, 0⟩, ⟨4, 3⟩] : List S35)) (inner := [.int .i64 0, .int .i64 0, .int .i64 4, .int .i64 0, .int .i64 4, .int .i64 3]) (ok := fun _ => True) (okp := fun _ => True) ?hr (Reps.c2 (show Kd.M k35 _ _ _ (⟨0, 0⟩ : S35) [.int .i64 0, .int .i64 0] from (k35_mkM _ _ _ (⟨0, 0⟩ : S35))) (Reps.c2 (show Kd.M k35 _ _ _ (⟨4, 0⟩ : S35) [.int .i64 4, .int .i64 0] from (k35_mkM _ _ _ (⟨4, 0⟩ : S35))) (Reps.c2 (show Kd.M k35 _ _ _ (⟨4, 3⟩ : S35) [.int .i64 4, .int .i64 3] from (k35_mkM _ _ _ (⟨4, 3⟩ : S35))) (Reps.none _ _)))) (fun _ hk => hk) trivial (Below.refl _ _) (Nat.le_refl _) (by decide) ?_; (case hd => rfl); (case hg => rfl); (case hr => first | (go_simp; done) | (go_simp; rfl)); intro v w18 ho hb hg_ hnew_; clear hg_ hnew_; replace ho : Kd.R k35 35 _ _ _ v dancestudiolaw43_awake.p1 := ho; replace R0 := am (Kd.C_below R0.out hb); replace R1 := am (Kd.C_below R1.out hb); replace BK1 := am (blk_below BK1.out hb); replace RP := am (Kd.C_below RP.out hb); replace RT := am (Kd.C_below RT.out hb); replace BK5 := am (blk_below BK5.out hb); replace BK6 := am (blk_below BK6.out hb); replace RQ := am (Kd.C_below RQ.out hb); replace HB := am (below_step HB.out hb); obtain ⟨Ar, cr, eo, RSl_, RSr_⟩ := Kd.R_reads ho; subst eo; have RSL := am RSl_; have RS := am RSr_; clear hb ho RSl_ RSr_)
    | ((with_reducible refine gate_dst (N := 71) rfl ?_); (try (refine row_guard (by rfl) ?_; dsimp only)); refine goesL_ (some 71) rfl rfl Try.func13 qz rfl #[.slice Ap dancestudiolaw43_awake.p1.length cp, .slice Ar dancestudiolaw43_awake.p1.length cr] rfl (by (try simp only [List.map_toArray, List.map_cons, List.map_nil]); rfl) ?_; (with_reducible refine (dancestudioref43_Same.calls 40 Ap cp dancestudiolaw43_awake.p1 Ar cr dancestudiolaw43_awake.p1 true _ RP.out LP.out RS.out RSL.out dancestudiolaw43_awake.e5).mono ?_); rintro e w19 ⟨rfl, hd⟩; refine ⟨_, rfl, ?_⟩; have hb := hd.below; replace R0 := am (Kd.C_below R0.out hb); replace R1 := am (Kd.C_below R1.out hb); replace BK1 := am (blk_below BK1.out hb); replace RP := am (Kd.C_below RP.out hb); replace RT := am (Kd.C_below RT.out hb); replace BK5 := am (blk_below BK5.out hb); replace BK6 := am (blk_below BK6.out hb); replace RQ := am (Kd.C_below RQ.out hb); replace RS := am (Kd.C_below RS.out hb); replace HB := am (below_step HB.out hb); clear hb hd)
    | ((with_reducible refine gate_dst (N := 10) rfl ?_); refine box_event yz (N := 10) yz (cs := #[.int .i64 0, .int .i64 0, .slice none 0 0]) (t := 42) gz ?_; intro g10 hg w20 hbox hb; have HA10 := am (And.intro hbox (And.intro hb hg)); clear hbox hb hg)
    | ((with_reducible refine row_gate (t := 42) (p := 10) rfl ?_); refine row_event ?h0 42 (.tmp 10) (.tmp 74) ?ho ?hd g10 #[.int .i64 1000, .int .i64 1000, .slice none 0 0] ?hx ?hy _ _ HA10.out.1 ?hi ?hs ?h1 ?_; (case h0 => rfl); (case ho => rfl); (case hd => rfl); (case hx => first | rfl | (go_simp; rfl)); (case hy => first | rfl | (go_simp; rfl)); (case hi => rfl); (case hs => rfl); (case h1 => simp [Value.oneCell']); intro w21 hbox ho_ hb_; have hb := hb_ _ _ HA10.out.2.1 (Nat.le_of_eq HA10.out.2.2.symm); have GE10 := am (show w.heap.size ≤ g10 by rw [HA10.out.2.2]; exact HB.out.size); replace R0 := am (Kd.C_below R0.out hb); replace R1 := am (Kd.C_below R1.out hb); replace BK1 := am (blk_below BK1.out hb); replace RP := am (Kd.C_below RP.out hb); replace RT := am (Kd.C_below RT.out hb); replace BK5 := am (blk_below BK5.out hb); replace BK6 := am (blk_below BK6.out hb); replace RQ := am (Kd.C_below RQ.out hb); replace RS := am (Kd.C_below RS.out hb); replace HB := am (below_step HB.out hb); have BK10 := am hbox; clear hbox ho_ hb_ hb HA10))
  clear R0 R1 RP RT RQ RS L0 L1 LP LT RQL RSL BK1 BK5 BK6
  have hS : dancestudiolaw43_awake.RS w [] g10 (.slice none 0 0) _ := ⟨BK10.out, GE10.out, HB.out, fun p hp => by cases hp⟩
  clear HB BK10 GE10
  (try simp only [Act.put, List.setIfInBounds_toArray, List.set_cons_zero, List.set_cons_succ])
  go_cut [4, 11] (fun v4 v11 wc => dancestudiolaw43_awake.HitAt w [] g10 (.slice none 0 0) (-1) 0 0 v4 v11 wc)
  · replace hS := And.intro (dancestudiolaw43_awake.cells hS) hS
    go_region_held3 (fun w' => (w'.cell? ⟨g10, 0, none⟩ = some (.int .i64 1000) ∧ w'.cell? ⟨g10, 1, none⟩ = some (.int .i64 1000) ∧ w'.cell? ⟨g10, 2, none⟩ = some (.slice none 0 0)) ∧ dancestudiolaw43_awake.RS w [] g10 (.slice none 0 0) w') (first | (with_reducible (refine dancestudiolaw43_awake.kD ?_; assumption)) | (with_reducible (refine dancestudiolaw43_awake.kAD ?_ _; assumption)) | (with_reducible (apply dancestudiolaw43_awake.kAA; assumption)) | (with_reducible (refine dancestudiolaw43_awake.kA ?_ _; assumption)) | (with_reducible (refine dancestudiolaw43_awake.kC ?_ hb; assumption)) | (with_reducible (refine dancestudiolaw43_awake.kT9 ?_ BB.out HN.out _ _ _; assumption))) (first | (go_at_call 26; (with_reducible refine (dancestudiolaw43_awake.pose 0 500 _).mono ?_); rintro e w1_ ⟨rfl, hb⟩; (first | (have BX := am (by with_reducible exact blk_below BB.out hb); clear BB z0 z1 z2 f0 f1 f2; have BB := BX; clear BX; obtain ⟨z0, z1, z2, f0, f1, f2⟩ := dancestudiolaw43_awake.kc3 BB.out) | (have BX := am (by with_reducible exact blk_below (blk_alloc BB.out _) hb); clear BB z0 z1 z2 f0 f1 f2; have BB := BX; clear BX; obtain ⟨z0, z1, z2, f0, f1, f2⟩ := dancestudiolaw43_awake.kc3 BB.out) | (have BB := am (by with_reducible exact dancestudiolaw43_awake.newb hb); have HN := am (by with_reducible exact dancestudiolaw43_awake.newn (by assumption)); obtain ⟨z0, z1, z2, f0, f1, f2⟩ := dancestudiolaw43_awake.kc3 BB.out) | (have BB := am (by with_reducible exact dancestudiolaw43_awake.newb2 hb); have HN := am (by with_reducible exact dancestudiolaw43_awake.newn2 (by assumption)); obtain ⟨z0, z1, z2, f0, f1, f2⟩ := dancestudiolaw43_awake.kc3 BB.out) | (have BB := am (by with_reducible exact dancestudiolaw43_awake.newb3 hb); have HN := am (by with_reducible exact dancestudiolaw43_awake.newn3 (by assumption)); obtain ⟨z0, z1, z2, f0, f1, f2⟩ := dancestudiolaw43_awake.kc3 BB.out) | skip); (try simp only [World.size_alloc] at z0 z1 z2 f0 f1 f2); (try simp only [World.size_alloc] at BB HN)) | (go_at_call 25; refine (dancestudiolaw43_awake.of 40 dancestudiolaw43_awake.m2 dancestudiolaw43_awake.y2 _ _ _ _ (by first | exact dancestudiolaw43_awake.litR2 _ _ [(0, 500), (0, 500)] (by decide) | exact dancestudiolaw43_awake.litR _ [(0, 500), (0, 500)] (by decide) | exact Kd.R_alloc (dancestudiolaw43_awake.litR _ [(0, 500), (0, 500)] (by decide)) _) dancestudiolaw43_awake.o2).mono ?_; rintro e w2_ ⟨A0, c0, A1, c1, rfl, hl0, hl1, hr0, hr1, hb⟩; (first | (have BX := am (by with_reducible exact blk_below BB.out hb); clear BB z0 z1 z2 f0 f1 f2; have BB := BX; clear BX; obtain ⟨z0, z1, z2, f0, f1, f2⟩ := dancestudiolaw43_awake.kc3 BB.out) | (have BX := am (by with_reducible exact blk_below (blk_alloc BB.out _) hb); clear BB z0 z1 z2 f0 f1 f2; have BB := BX; clear BX; obtain ⟨z0, z1, z2, f0, f1, f2⟩ := dancestudiolaw43_awake.kc3 BB.out) | (have BB := am (by with_reducible exact dancestudiolaw43_awake.newb hb); have HN := am (by with_reducible exact dancestudiolaw43_awake.newn (by assumption)); obtain ⟨z0, z1, z2, f0, f1, f2⟩ := dancestudiolaw43_awake.kc3 BB.out) | (have BB := am (by with_reducible exact dancestudiolaw43_awake.newb2 hb); have HN := am (by with_reducible exact dancestudiolaw43_awake.newn2 (by assumption)); obtain ⟨z0, z1, z2, f0, f1, f2⟩ := dancestudiolaw43_awake.kc3 BB.out) | (have BB := am (by with_reducible exact dancestudiolaw43_awake.newb3 hb); have HN := am (by with_reducible exact dancestudiolaw43_awake.newn3 (by assumption)); obtain ⟨z0, z1, z2, f0, f1, f2⟩ := dancestudiolaw43_awake.kc3 BB.out) | skip); (try simp only [World.size_alloc] at z0 z1 z2 f0 f1 f2); (try simp only [World.size_alloc] at BB HN)) | (go_at_call 19; refine (floor_First.calls 40 1000 1000 none 0 dancestudiolaw43_awake.b0 A0 c0 dancestudiolaw43_awake.m2 A1 c1 dancestudiolaw43_awake.y2 300 (-1) 0 0 0 _ (Kd.C_nil _ _) (Nat.le_refl _) (by first | exact hr0 | exact Kd.C_alloc hr0 _) hl0 (by first | exact hr1 | exact Kd.C_alloc hr1 _) hl1 dancestudiolaw43_awake.e6).mono ?_; rintro e w3_ ⟨rfl, hb⟩; (first | (have BX := am (by with_reducible exact blk_below BB.out hb); clear BB z0 z1 z2 f0 f1 f2; have BB := BX; clear BX; obtain ⟨z0, z1, z2, f0, f1, f2⟩ := dancestudiolaw43_awake.kc3 BB.out) | (have BX := am (by with_reducible exact blk_below (blk_alloc BB.out _) hb); clear BB z0 z1 z2 f0 f1 f2; have BB := BX; clear BX; obtain ⟨z0, z1, z2, f0, f1, f2⟩ := dancestudiolaw43_awake.kc3 BB.out) | (have BB := am (by with_reducible exact dancestudiolaw43_awake.newb hb); have HN := am (by with_reducible exact dancestudiolaw43_awake.newn (by assumption)); obtain ⟨z0, z1, z2, f0, f1, f2⟩ := dancestudiolaw43_awake.kc3 BB.out) | (have BB := am (by with_reducible exact dancestudiolaw43_awake.newb2 hb); have HN := am (by with_reducible exact dancestudiolaw43_awake.newn2 (by assumption)); obtain ⟨z0, z1, z2, f0, f1, f2⟩ := dancestudiolaw43_awake.kc3 BB.out) | (have BB := am (by with_reducible exact dancestudiolaw43_awake.newb3 hb); have HN := am (by with_reducible exact dancestudiolaw43_awake.newn3 (by assumption)); obtain ⟨z0, z1, z2, f0, f1, f2⟩ := dancestudiolaw43_awake.kc3 BB.out) | skip); (try simp only [World.size_alloc] at z0 z1 z2 f0 f1 f2); (try simp only [World.size_alloc] at BB HN)))
    all_goals (go_wp2; go_meet)
    all_goals (first | exact dancestudiolaw43_awake.fin (And.right (by assumption)) (dancestudiolaw43_awake.put3 BB.out) HN.out | exact dancestudiolaw43_awake.fin (And.right (by assumption)) (blk_new _ _) (dancestudiolaw43_awake.newn (by assumption)))
  obtain ⟨rfl, g11, rfl, k11, n11, q11, hS⟩ := hcut
  replace hS := dancestudiolaw43_awake.addK hS g11 _ k11 (by simp)
  clear k11 q11
  go_upto_region 11 with (fail)
  (try simp only [Act.put, List.setIfInBounds_toArray, List.set_cons_zero, List.set_cons_succ])
  go_cut [7, 12] (fun v7 v12 wc => dancestudiolaw43_awake.HitAt w [(g11, .cells #[.int .i64 (-1), .int .i64 0, .int .i64 0] 44 (0, 0))] g10 (.slice none 0 0) 1 0 (-1) v7 v12 wc)
  · replace hS := And.intro (dancestudiolaw43_awake.cells hS) hS
    go_region_held3 (fun w' => (w'.cell? ⟨g10, 0, none⟩ = some (.int .i64 1000) ∧ w'.cell? ⟨g10, 1, none⟩ = some (.int .i64 1000) ∧ w'.cell? ⟨g10, 2, none⟩ = some (.slice none 0 0)) ∧ dancestudiolaw43_awake.RS w [(g11, .cells #[.int .i64 (-1), .int .i64 0, .int .i64 0] 44 (0, 0))] g10 (.slice none 0 0) w') (first | (with_reducible (refine dancestudiolaw43_awake.kD ?_; assumption)) | (with_reducible (refine dancestudiolaw43_awake.kAD ?_ _; assumption)) | (with_reducible (apply dancestudiolaw43_awake.kAA; assumption)) | (with_reducible (refine dancestudiolaw43_awake.kA ?_ _; assumption)) | (with_reducible (refine dancestudiolaw43_awake.kC ?_ hb; assumption)) | (with_reducible (refine dancestudiolaw43_awake.kT9 ?_ BB.out HN.out _ _ _; assumption))) (first | (go_at_call 26; (with_reducible refine (dancestudiolaw43_awake.pose 0 500 _).mono ?_); rintro e w1_ ⟨rfl, hb⟩; (first | (have BX := am (by with_reducible exact blk_below BB.out hb); clear BB z0 z1 z2 f0 f1 f2; have BB := BX; clear BX; obtain ⟨z0, z1, z2, f0, f1, f2⟩ := dancestudiolaw43_awake.kc3 BB.out) | (have BX := am (by with_reducible exact blk_below (blk_alloc BB.out _) hb); clear BB z0 z1 z2 f0 f1 f2; have BB := BX; clear BX; obtain ⟨z0, z1, z2, f0, f1, f2⟩ := dancestudiolaw43_awake.kc3 BB.out) | (have BB := am (by with_reducible exact dancestudiolaw43_awake.newb hb); have HN := am (by with_reducible exact dancestudiolaw43_awake.newn (by assumption)); obtain ⟨z0, z1, z2, f0, f1, f2⟩ := dancestudiolaw43_awake.kc3 BB.out) | (have BB := am (by with_reducible exact dancestudiolaw43_awake.newb2 hb); have HN := am (by with_reducible exact dancestudiolaw43_awake.newn2 (by assumption)); obtain ⟨z0, z1, z2, f0, f1, f2⟩ := dancestudiolaw43_awake.kc3 BB.out) | (have BB := am (by with_reducible exact dancestudiolaw43_awake.newb3 hb); have HN := am (by with_reducible exact dancestudiolaw43_awake.newn3 (by assumption)); obtain ⟨z0, z1, z2, f0, f1, f2⟩ := dancestudiolaw43_awake.kc3 BB.out) | skip); (try simp only [World.size_alloc] at z0 z1 z2 f0 f1 f2); (try simp only [World.size_alloc] at BB HN)) | (go_at_call 26; (with_reducible refine (dancestudiolaw43_awake.pose 250 500 _).mono ?_); rintro e w1_ ⟨rfl, hb⟩; (first | (have BX := am (by with_reducible exact blk_below BB.out hb); clear BB z0 z1 z2 f0 f1 f2; have BB := BX; clear BX; obtain ⟨z0, z1, z2, f0, f1, f2⟩ := dancestudiolaw43_awake.kc3 BB.out) | (have BX := am (by with_reducible exact blk_below (blk_alloc BB.out _) hb); clear BB z0 z1 z2 f0 f1 f2; have BB := BX; clear BX; obtain ⟨z0, z1, z2, f0, f1, f2⟩ := dancestudiolaw43_awake.kc3 BB.out) | (have BB := am (by with_reducible exact dancestudiolaw43_awake.newb hb); have HN := am (by with_reducible exact dancestudiolaw43_awake.newn (by assumption)); obtain ⟨z0, z1, z2, f0, f1, f2⟩ := dancestudiolaw43_awake.kc3 BB.out) | (have BB := am (by with_reducible exact dancestudiolaw43_awake.newb2 hb); have HN := am (by with_reducible exact dancestudiolaw43_awake.newn2 (by assumption)); obtain ⟨z0, z1, z2, f0, f1, f2⟩ := dancestudiolaw43_awake.kc3 BB.out) | (have BB := am (by with_reducible exact dancestudiolaw43_awake.newb3 hb); have HN := am (by with_reducible exact dancestudiolaw43_awake.newn3 (by assumption)); obtain ⟨z0, z1, z2, f0, f1, f2⟩ := dancestudiolaw43_awake.kc3 BB.out) | skip); (try simp only [World.size_alloc] at z0 z1 z2 f0 f1 f2); (try simp only [World.size_alloc] at BB HN)) | (go_at_call 25; refine (dancestudiolaw43_awake.of 40 dancestudiolaw43_awake.m3 dancestudiolaw43_awake.y3 _ _ _ _ (by first | exact dancestudiolaw43_awake.litR2 _ _ [(0, 500), (0, 500), (250, 500)] (by decide) | exact dancestudiolaw43_awake.litR _ [(0, 500), (0, 500), (250, 500)] (by decide) | exact Kd.R_alloc (dancestudiolaw43_awake.litR _ [(0, 500), (0, 500), (250, 500)] (by decide)) _) dancestudiolaw43_awake.o3).mono ?_; rintro e w2_ ⟨A0, c0, A1, c1, rfl, hl0, hl1, hr0, hr1, hb⟩; (first | (have BX := am (by with_reducible exact blk_below BB.out hb); clear BB z0 z1 z2 f0 f1 f2; have BB := BX; clear BX; obtain ⟨z0, z1, z2, f0, f1, f2⟩ := dancestudiolaw43_awake.kc3 BB.out) | (have BX := am (by with_reducible exact blk_below (blk_alloc BB.out _) hb); clear BB z0 z1 z2 f0 f1 f2; have BB := BX; clear BX; obtain ⟨z0, z1, z2, f0, f1, f2⟩ := dancestudiolaw43_awake.kc3 BB.out) | (have BB := am (by with_reducible exact dancestudiolaw43_awake.newb hb); have HN := am (by with_reducible exact dancestudiolaw43_awake.newn (by assumption)); obtain ⟨z0, z1, z2, f0, f1, f2⟩ := dancestudiolaw43_awake.kc3 BB.out) | (have BB := am (by with_reducible exact dancestudiolaw43_awake.newb2 hb); have HN := am (by with_reducible exact dancestudiolaw43_awake.newn2 (by assumption)); obtain ⟨z0, z1, z2, f0, f1, f2⟩ := dancestudiolaw43_awake.kc3 BB.out) | (have BB := am (by with_reducible exact dancestudiolaw43_awake.newb3 hb); have HN := am (by with_reducible exact dancestudiolaw43_awake.newn3 (by assumption)); obtain ⟨z0, z1, z2, f0, f1, f2⟩ := dancestudiolaw43_awake.kc3 BB.out) | skip); (try simp only [World.size_alloc] at z0 z1 z2 f0 f1 f2); (try simp only [World.size_alloc] at BB HN)) | (go_at_call 19; refine (floor_First.calls 40 1000 1000 none 0 dancestudiolaw43_awake.b0 A0 c0 dancestudiolaw43_awake.m3 A1 c1 dancestudiolaw43_awake.y3 300 1 0 (-1) 0 _ (Kd.C_nil _ _) (Nat.le_refl _) (by first | exact hr0 | exact Kd.C_alloc hr0 _) hl0 (by first | exact hr1 | exact Kd.C_alloc hr1 _) hl1 dancestudiolaw43_awake.e7).mono ?_; rintro e w3_ ⟨rfl, hb⟩; (first | (have BX := am (by with_reducible exact blk_below BB.out hb); clear BB z0 z1 z2 f0 f1 f2; have BB := BX; clear BX; obtain ⟨z0, z1, z2, f0, f1, f2⟩ := dancestudiolaw43_awake.kc3 BB.out) | (have BX := am (by with_reducible exact blk_below (blk_alloc BB.out _) hb); clear BB z0 z1 z2 f0 f1 f2; have BB := BX; clear BX; obtain ⟨z0, z1, z2, f0, f1, f2⟩ := dancestudiolaw43_awake.kc3 BB.out) | (have BB := am (by with_reducible exact dancestudiolaw43_awake.newb hb); have HN := am (by with_reducible exact dancestudiolaw43_awake.newn (by assumption)); obtain ⟨z0, z1, z2, f0, f1, f2⟩ := dancestudiolaw43_awake.kc3 BB.out) | (have BB := am (by with_reducible exact dancestudiolaw43_awake.newb2 hb); have HN := am (by with_reducible exact dancestudiolaw43_awake.newn2 (by assumption)); obtain ⟨z0, z1, z2, f0, f1, f2⟩ := dancestudiolaw43_awake.kc3 BB.out) | (have BB := am (by with_reducible exact dancestudiolaw43_awake.newb3 hb); have HN := am (by with_reducible exact dancestudiolaw43_awake.newn3 (by assumption)); obtain ⟨z0, z1, z2, f0, f1, f2⟩ := dancestudiolaw43_awake.kc3 BB.out) | skip); (try simp only [World.size_alloc] at z0 z1 z2 f0 f1 f2); (try simp only [World.size_alloc] at BB HN)))
    all_goals (go_wp2; go_meet)
    all_goals (first | exact dancestudiolaw43_awake.fin (And.right (by assumption)) (dancestudiolaw43_awake.put3 BB.out) HN.out | exact dancestudiolaw43_awake.fin (And.right (by assumption)) (blk_new _ _) (dancestudiolaw43_awake.newn (by assumption)))
  obtain ⟨rfl, g12, rfl, k12, n12, q12, hS⟩ := hcut
  replace hS := dancestudiolaw43_awake.addK hS g12 _ k12 (by simp)
  clear k12 q12
  go_upto_region 13 with ((with_reducible refine gate_dst (N := 96) rfl ?_); refine dancestudiolaw43_awake.lit_event ?hg (N := 96) ?hd (n := 1) (cs := #[.int .i64 0, .int .i64 900, .int .i64 101]) (t := 64) ?hr ?_; (case hd => rfl); (case hg => rfl); (case hr => first | (go_simp; done) | (go_simp; rfl)); intro gb hgb w40 hbk hb; have hT := dancestudiolaw43_awake.keepC hS hb; clear hS; have hS := hT; clear hT; have hK := am hbk; have z2 : w40.cell? ⟨g10, 2, none⟩ = some (.slice none 0 0) := (blk_cell hS.1 2).trans rfl; have f2 := blk_frozen hS.1 2; clear hb hbk hgb)
  have hT := dancestudiolaw43_awake.setc (dancestudiolaw43_awake.addK hS gb _ hK.out (by simp)) (by simp) (.slice (some ⟨gb, 0, none⟩) 1 1)
  clear hS z2 f2 hK
  have hS := hT
  clear hT
  generalize (World.setCell w40 ⟨g10, 2, none⟩ (Value.slice (some ⟨gb, 0, none⟩) 1 1)) = wz at hS ⊢
  (try simp only [Act.put, List.setIfInBounds_toArray, List.set_cons_zero, List.set_cons_succ])
  go_cut [9, 13] (fun v9 v13 wc => dancestudiolaw43_awake.HitAt w [(gb, .cells #[.int .i64 0, .int .i64 900, .int .i64 101] 64 (0, 0)), (g12, .cells #[.int .i64 1, .int .i64 0, .int .i64 (-1)] 44 (0, 0)), (g11, .cells #[.int .i64 (-1), .int .i64 0, .int .i64 0] 44 (0, 0))] g10 (.slice (some ⟨gb, 0, none⟩) 1 1) 0 0 0 v9 v13 wc)
  · replace hS := And.intro (dancestudiolaw43_awake.cells hS) hS
    go_region_held3 (fun w' => (w'.cell? ⟨g10, 0, none⟩ = some (.int .i64 1000) ∧ w'.cell? ⟨g10, 1, none⟩ = some (.int .i64 1000) ∧ w'.cell? ⟨g10, 2, none⟩ = some (.slice (some ⟨gb, 0, none⟩) 1 1)) ∧ dancestudiolaw43_awake.RS w [(gb, .cells #[.int .i64 0, .int .i64 900, .int .i64 101] 64 (0, 0)), (g12, .cells #[.int .i64 1, .int .i64 0, .int .i64 (-1)] 44 (0, 0)), (g11, .cells #[.int .i64 (-1), .int .i64 0, .int .i64 0] 44 (0, 0))] g10 (.slice (some ⟨gb, 0, none⟩) 1 1) w') (first | (with_reducible (refine dancestudiolaw43_awake.kD ?_; assumption)) | (with_reducible (refine dancestudiolaw43_awake.kAD ?_ _; assumption)) | (with_reducible (apply dancestudiolaw43_awake.kAA; assumption)) | (with_reducible (refine dancestudiolaw43_awake.kA ?_ _; assumption)) | (with_reducible (refine dancestudiolaw43_awake.kC ?_ hb; assumption)) | (with_reducible (refine dancestudiolaw43_awake.kT9 ?_ BB.out HN.out _ _ _; assumption))) (first | (go_at_call 26; (with_reducible refine (dancestudiolaw43_awake.pose 0 500 _).mono ?_); rintro e w1_ ⟨rfl, hb⟩; (first | (have BX := am (by with_reducible exact blk_below BB.out hb); clear BB z0 z1 z2 f0 f1 f2; have BB := BX; clear BX; obtain ⟨z0, z1, z2, f0, f1, f2⟩ := dancestudiolaw43_awake.kc3 BB.out) | (have BX := am (by with_reducible exact blk_below (blk_alloc BB.out _) hb); clear BB z0 z1 z2 f0 f1 f2; have BB := BX; clear BX; obtain ⟨z0, z1, z2, f0, f1, f2⟩ := dancestudiolaw43_awake.kc3 BB.out) | (have BB := am (by with_reducible exact dancestudiolaw43_awake.newb hb); have HN := am (by with_reducible exact dancestudiolaw43_awake.newn (by assumption)); obtain ⟨z0, z1, z2, f0, f1, f2⟩ := dancestudiolaw43_awake.kc3 BB.out) | (have BB := am (by with_reducible exact dancestudiolaw43_awake.newb2 hb); have HN := am (by with_reducible exact dancestudiolaw43_awake.newn2 (by assumption)); obtain ⟨z0, z1, z2, f0, f1, f2⟩ := dancestudiolaw43_awake.kc3 BB.out) | (have BB := am (by with_reducible exact dancestudiolaw43_awake.newb3 hb); have HN := am (by with_reducible exact dancestudiolaw43_awake.newn3 (by assumption)); obtain ⟨z0, z1, z2, f0, f1, f2⟩ := dancestudiolaw43_awake.kc3 BB.out) | skip); (try simp only [World.size_alloc] at z0 z1 z2 f0 f1 f2); (try simp only [World.size_alloc] at BB HN)) | (go_at_call 25; refine (dancestudiolaw43_awake.of 40 dancestudiolaw43_awake.m2 dancestudiolaw43_awake.y2 _ _ _ _ (by first | exact dancestudiolaw43_awake.litR2 _ _ [(0, 500), (0, 500)] (by decide) | exact dancestudiolaw43_awake.litR _ [(0, 500), (0, 500)] (by decide) | exact Kd.R_alloc (dancestudiolaw43_awake.litR _ [(0, 500), (0, 500)] (by decide)) _) dancestudiolaw43_awake.o2).mono ?_; rintro e w2_ ⟨A0, c0, A1, c1, rfl, hl0, hl1, hr0, hr1, hb⟩; (first | (have BX := am (by with_reducible exact blk_below BB.out hb); clear BB z0 z1 z2 f0 f1 f2; have BB := BX; clear BX; obtain ⟨z0, z1, z2, f0, f1, f2⟩ := dancestudiolaw43_awake.kc3 BB.out) | (have BX := am (by with_reducible exact blk_below (blk_alloc BB.out _) hb); clear BB z0 z1 z2 f0 f1 f2; have BB := BX; clear BX; obtain ⟨z0, z1, z2, f0, f1, f2⟩ := dancestudiolaw43_awake.kc3 BB.out) | (have BB := am (by with_reducible exact dancestudiolaw43_awake.newb hb); have HN := am (by with_reducible exact dancestudiolaw43_awake.newn (by assumption)); obtain ⟨z0, z1, z2, f0, f1, f2⟩ := dancestudiolaw43_awake.kc3 BB.out) | (have BB := am (by with_reducible exact dancestudiolaw43_awake.newb2 hb); have HN := am (by with_reducible exact dancestudiolaw43_awake.newn2 (by assumption)); obtain ⟨z0, z1, z2, f0, f1, f2⟩ := dancestudiolaw43_awake.kc3 BB.out) | (have BB := am (by with_reducible exact dancestudiolaw43_awake.newb3 hb); have HN := am (by with_reducible exact dancestudiolaw43_awake.newn3 (by assumption)); obtain ⟨z0, z1, z2, f0, f1, f2⟩ := dancestudiolaw43_awake.kc3 BB.out) | skip); (try simp only [World.size_alloc] at z0 z1 z2 f0 f1 f2); (try simp only [World.size_alloc] at BB HN)) | (go_at_call 19; refine (floor_First.calls 40 1000 1000 (some ⟨gb, 0, none⟩) 1 dancestudiolaw43_awake.b1 A0 c0 dancestudiolaw43_awake.m2 A1 c1 dancestudiolaw43_awake.y2 300 0 0 0 0 _ (dancestudiolaw43_awake.blkC (by assumption) (by simp)) (Nat.le_refl _) (by first | exact hr0 | exact Kd.C_alloc hr0 _) hl0 (by first | exact hr1 | exact Kd.C_alloc hr1 _) hl1 dancestudiolaw43_awake.e8).mono ?_; rintro e w3_ ⟨rfl, hb⟩; (first | (have BX := am (by with_reducible exact blk_below BB.out hb); clear BB z0 z1 z2 f0 f1 f2; have BB := BX; clear BX; obtain ⟨z0, z1, z2, f0, f1, f2⟩ := dancestudiolaw43_awake.kc3 BB.out) | (have BX := am (by with_reducible exact blk_below (blk_alloc BB.out _) hb); clear BB z0 z1 z2 f0 f1 f2; have BB := BX; clear BX; obtain ⟨z0, z1, z2, f0, f1, f2⟩ := dancestudiolaw43_awake.kc3 BB.out) | (have BB := am (by with_reducible exact dancestudiolaw43_awake.newb hb); have HN := am (by with_reducible exact dancestudiolaw43_awake.newn (by assumption)); obtain ⟨z0, z1, z2, f0, f1, f2⟩ := dancestudiolaw43_awake.kc3 BB.out) | (have BB := am (by with_reducible exact dancestudiolaw43_awake.newb2 hb); have HN := am (by with_reducible exact dancestudiolaw43_awake.newn2 (by assumption)); obtain ⟨z0, z1, z2, f0, f1, f2⟩ := dancestudiolaw43_awake.kc3 BB.out) | (have BB := am (by with_reducible exact dancestudiolaw43_awake.newb3 hb); have HN := am (by with_reducible exact dancestudiolaw43_awake.newn3 (by assumption)); obtain ⟨z0, z1, z2, f0, f1, f2⟩ := dancestudiolaw43_awake.kc3 BB.out) | skip); (try simp only [World.size_alloc] at z0 z1 z2 f0 f1 f2); (try simp only [World.size_alloc] at BB HN)))
    all_goals (go_wp2; go_meet)
    all_goals (first | exact dancestudiolaw43_awake.fin (And.right (by assumption)) (dancestudiolaw43_awake.put3 BB.out) HN.out | exact dancestudiolaw43_awake.fin (And.right (by assumption)) (blk_new _ _) (dancestudiolaw43_awake.newn (by assumption)))
  obtain ⟨rfl, g13, rfl, k13, n13, q13, hS⟩ := hcut
  obtain ⟨a0, a1, a2, a3, a4, a5⟩ := dancestudiolaw43_awake.kc3 (hS.2.2.2 (g11, .cells #[.int .i64 (-1), .int .i64 0, .int .i64 0] 44 (0, 0)) (by simp)).1
  obtain ⟨b0, b1, b2, b3, b4, b5⟩ := dancestudiolaw43_awake.kc3 (hS.2.2.2 (g12, .cells #[.int .i64 1, .int .i64 0, .int .i64 (-1)] 44 (0, 0)) (by simp)).1
  obtain ⟨d0, d1, d2, d3, d4, d5⟩ := dancestudiolaw43_awake.kc3 k13
  have HZ := am hS.2.2.1
  clear hS k13 n13 q13
  go_wp2
  go_ret
  exact ⟨by first | rfl | simp, HZ.out⟩

end Go.Proofs.Ytmdmajfgpmopbaa.X

namespace Go.Proofs.Ytmdmajfgpmopbaa.X
open Go.RowKit YtmdmajfgpmopbaaW.PrintWords YtmdmajfgpmopbaaW.PrintLast YtmdmajfgpmopbaaW.PrintMore
attribute [local go_sem] max2_int min2_int max_two min_two max_three min_three max_four min_four
set_option linter.unusedVariables false
set_option linter.unusedSimpArgs false

attribute [local go_sem high] eqA44
/-! ### dancestudiolaw43_FloorFirsts: function 4 -/
def dancestudiolaw43_FloorFirsts.f (k : Nat) (a0_0 a0_1 : Int) (l0_2 : List (S64)) (l1_0 : List (S53)) (l1_1 : List Int) (a2 : Int) : Option (Bool) := (dancestudiolaw43_great.f l1_0 l1_1).bind fun t490 => (if t490 = true then ((dancestudiolaw43_awake.f).bind fun t491 => (some t491)) else ((floor_First.f k a0_0 a0_1 l0_2 l1_0 l1_1 a2).bind fun bt492 => ((dancestudioref43_First.f k a0_0 a0_1 l0_2 l1_0 l1_1 a2).bind fun bt497 => (if (bt492.1 == bt497.1 && (bt492.2.1 == bt497.2.1 && (bt492.2.2.1 == bt497.2.2.1))) = true then (if bt492.2.2.2 = bt497.2.2.2 then ((dancestudiolaw43_awake.f).bind fun t502 => (some t502)) else (none)) else (none)))))
theorem dancestudiolaw43_FloorFirsts.mono : ∀ a0 a1 a2 a3 a4 a5 k, LeO (dancestudiolaw43_FloorFirsts.f k a0 a1 a2 a3 a4 a5) (dancestudiolaw43_FloorFirsts.f (k + 1) a0 a1 a2 a3 a4 a5) := by
 intro a0 a1 a2 a3 a4 a5 k
 unfold dancestudiolaw43_FloorFirsts.f
 repeat' first
   | (with_reducible exact dancestudioref43_First.mono _ _ _ _ _ _ _)
   | (with_reducible exact floor_First.mono _ _ _ _ _ _ _)
   | (with_reducible exact LeO.refl _)
   | (with_reducible exact LeO.none _)
   | (with_reducible refine LeO.ite ?_ ?_)
   | (with_reducible refine LeO.bind ?_ (fun _ => ?_))
   | exact dancestudioref43_First.mono _ _ _ _ _ _ _
   | exact floor_First.mono _ _ _ _ _ _ _
   | exact LeO.none _
   | refine LeO.ite ?_ ?_
   | refine LeO.bind ?_ (fun _ => ?_)
set_option maxHeartbeats 8000000 in
set_option maxRecDepth 100000 in
theorem dancestudiolaw43_FloorFirsts.calls (k : Nat) (a0_0 a0_1 : Int) (A0_2 : Option Addr) (c0_2 : Nat) (l0_2 : List (S64)) (A1_0 : Option Addr) (c1_0 : Nat) (l1_0 : List (S53)) (A1_1 : Option Addr) (c1_1 : Nat) (l1_1 : List Int) (a2 : Int) (r : Bool) (w : World) (hr0_2 : Kd.C k64 w A0_2 l0_2.length l0_2) (hc0_2 : l0_2.length ≤ c0_2) (hr1_0 : Kd.C k53 w A1_0 l1_0.length l1_0) (hc1_0 : l1_0.length ≤ c1_0) (hr1_1 : Kd.C (Kd.int .i64) w A1_1 l1_1.length l1_1) (hc1_1 : l1_1.length ≤ c1_1) (h : dancestudiolaw43_FloorFirsts.f k a0_0 a0_1 l0_2 l1_0 l1_1 a2 = some r) :
  Calls Try.prog 4 #[.agg #[.int .i64 a0_0, .int .i64 a0_1, .slice A0_2 l0_2.length c0_2], .agg #[.slice A1_0 l1_0.length c1_0, .slice A1_1 l1_1.length c1_1], .int .i64 a2] w fun e w' => e = .returned (.bool r) ∧ Below w.heap.size w w' := by
 have hu42 := Try.underlying42
 have hu25 := Try.underlying25
 have hu44 := Try.underlying44
 have HR0_2 := am hr0_2
 have HC0_2 := am hc0_2
 clear hr0_2 hc0_2
 have HR1_0 := am hr1_0
 have HC1_0 := am hc1_0
 clear hr1_0 hc1_0
 have HR1_1 := am hr1_1
 have HC1_1 := am hc1_1
 clear hr1_1 hc1_1
 have HB := am (Below.refl w.heap.size w)
 have H : ((dancestudiolaw43_great.f l1_0 l1_1).bind fun t490 => (if t490 = true then ((dancestudiolaw43_awake.f).bind fun t491 => (some t491)) else ((floor_First.f k a0_0 a0_1 l0_2 l1_0 l1_1 a2).bind fun bt492 => ((dancestudioref43_First.f k a0_0 a0_1 l0_2 l1_0 l1_1 a2).bind fun bt497 => (if (bt492.1 == bt497.1 && (bt492.2.1 == bt497.2.1 && (bt492.2.2.1 == bt497.2.2.1))) = true then (if bt492.2.2.2 = bt497.2.2.2 then ((dancestudiolaw43_awake.f).bind fun t502 => (some t502)) else (none)) else (none)))))) = some r := h
 clear h
 replace H := Option.bind_eq_some_iff.mp H
 obtain ⟨t490, A40, H⟩ := H
 replace H : (if t490 = true then ((dancestudiolaw43_awake.f).bind fun t491 => (some t491)) else ((floor_First.f k a0_0 a0_1 l0_2 l1_0 l1_1 a2).bind fun bt492 => ((dancestudioref43_First.f k a0_0 a0_1 l0_2 l1_0 l1_1 a2).bind fun bt497 => (if (bt492.1 == bt497.1 && (bt492.2.1 == bt497.2.1 && (bt492.2.2.1 == bt497.2.2.1))) = true then (if bt492.2.2.2 = bt497.2.2.2 then ((dancestudiolaw43_awake.f).bind fun t502 => (some t502)) else (none)) else (none))))) = some r := H
 have A4 := am A40
 clear A40
 by_cases c5 : t490 = true
 ·
  subst c5
  have H1 : ((dancestudiolaw43_awake.f).bind fun t491 => (some t491)) = some r := by rw [if_pos rfl] at H; exact H
  clear H
  have H := H1
  clear H1
  replace H := Option.bind_eq_some_iff.mp H
  obtain ⟨t491, A60, H⟩ := H
  replace H : (some t491) = some r := H
  have A6 := am A60
  clear A60
  obtain rfl := Option.some.inj H
  go_enter Try.func4, Try.ntmps4
  go_wp2_with (first | ((with_reducible refine gate_dst (N := 3) rfl ?_); refine box_event yz (N := 3) yz (cs := #[.int .i64 a0_0, .int .i64 a0_1, .slice A0_2 l0_2.length c0_2]) (t := 42) gz ?_; intro gb488 hg w7 hbox hb; have BK488 := am (hbox); have GW488 := gwz (g := gb488) HB hg; have GE488 := GW488; replace HB := am (below_step bz hb); clear hb hbox hg) | ((with_reducible refine gate_dst (N := 4) rfl ?_); refine box_event yz (N := 4) yz (cs := #[.slice A1_0 l1_0.length c1_0, .slice A1_1 l1_1.length c1_1]) (t := 25) gz ?_; intro gb489 hg w8 hbox hb; have BK489 := am (hbox); have GW489 := gwz (g := gb489) HB hg; have GE489 := GW489; replace HB := am (below_step bz hb); have NB488_489 := nlt (g' := gb489) BK488 hg; have NB489_488 := ngt (g' := gb489) BK488 hg; replace BK488 := am (blk_below (o := .cells #[.int .i64 a0_0, .int .i64 a0_1, .slice A0_2 l0_2.length c0_2] 42 (0, 0)) (kz BK488) hb); clear hb hbox hg; have hnb9 := NB489_488.out; have hnc9 := NB488_489.out; obtain ⟨hcz10_0, hcz10_1, hfz10_0, hfz10_1⟩ := kc2 BK489.out) | ((with_reducible refine gate_callee (f := 9) rfl ?_); refine goesL_ (some 12) rfl rfl Try.func9 qz rfl #[.agg #[.slice A1_0 l1_0.length c1_0, .slice A1_1 l1_1.length c1_1]] rfl mz ?_; (with_reducible refine (dancestudiolaw43_great.calls _ _ l1_0 _ _ l1_1 true _ ?side1 ?side2 ?side3 ?side4 A4.out).mono ?_); (case side1 => exact cz HR1_0); (case side2 => exact HC1_0.out); (case side3 => exact cz HR1_1); (case side4 => exact HC1_1.out); rintro e w11 ⟨rfl, hb⟩; refine ⟨_, rfl, ?_⟩; replace BK488 := am (blk_below (o := .cells #[.int .i64 a0_0, .int .i64 a0_1, .slice A0_2 l0_2.length c0_2] 42 (0, 0)) (kz BK488) hb); replace BK489 := am (blk_below (o := .cells #[.slice A1_0 l1_0.length c1_0, .slice A1_1 l1_1.length c1_1] 25 (0, 0)) (kz BK489) hb); replace HB := am (below_step bz hb); (try clear hb); (try clear hb2); (try clear hk); (try clear hi)) | ((with_reducible refine gate_callee (f := 10) rfl ?_); refine goesL_ (some 13) rfl rfl Try.func10 qz rfl #[] rfl mz ?_; (with_reducible refine (dancestudiolaw43_awake.calls  t491 _ A6.out).mono ?_); rintro e w12 ⟨rfl, hb⟩; refine ⟨_, rfl, ?_⟩; replace BK488 := am (blk_below (o := .cells #[.int .i64 a0_0, .int .i64 a0_1, .slice A0_2 l0_2.length c0_2] 42 (0, 0)) (kz BK488) hb); replace BK489 := am (blk_below (o := .cells #[.slice A1_0 l1_0.length c1_0, .slice A1_1 l1_1.length c1_1] 25 (0, 0)) (kz BK489) hb); replace HB := am (below_step bz hb); (try clear hb); (try clear hb2); (try clear hk); (try clear hi)))
  go_ret
  exact ⟨ez, bz⟩
 ·
  replace c5 := Bool.eq_false_iff.mpr c5
  subst c5
  have H1 : ((floor_First.f k a0_0 a0_1 l0_2 l1_0 l1_1 a2).bind fun bt492 => ((dancestudioref43_First.f k a0_0 a0_1 l0_2 l1_0 l1_1 a2).bind fun bt497 => (if (bt492.1 == bt497.1 && (bt492.2.1 == bt497.2.1 && (bt492.2.2.1 == bt497.2.2.1))) = true then (if bt492.2.2.2 = bt497.2.2.2 then ((dancestudiolaw43_awake.f).bind fun t502 => (some t502)) else (none)) else (none)))) = some r := by rw [if_neg (show ¬ (false = true) by decide)] at H; exact H
  clear H
  have H := H1
  clear H1
  replace H := Option.bind_eq_some_iff.mp H
  obtain ⟨⟨t492, t493, t494, t495⟩, A130, H⟩ := H
  replace H : ((dancestudioref43_First.f k a0_0 a0_1 l0_2 l1_0 l1_1 a2).bind fun bt497 => (if (t492 == bt497.1 && (t493 == bt497.2.1 && (t494 == bt497.2.2.1))) = true then (if t495 = bt497.2.2.2 then ((dancestudiolaw43_awake.f).bind fun t502 => (some t502)) else (none)) else (none))) = some r := H
  have A13 := am A130
  clear A130
  replace H := Option.bind_eq_some_iff.mp H
  obtain ⟨⟨t497, t498, t499, t500⟩, A140, H⟩ := H
  replace H : (if (t492 == t497 && (t493 == t498 && (t494 == t499))) = true then (if t495 = t500 then ((dancestudiolaw43_awake.f).bind fun t502 => (some t502)) else (none)) else (none)) = some r := H
  have A14 := am A140
  clear A140
  by_cases c15 : (t492 == t497 && (t493 == t498 && (t494 == t499))) = true
  ·
   rw [if_pos c15] at H
   have c15b0 : (t492 == t497 && (t493 == t498 && (t494 == t499))) = true := c15
   (try (have c15b1 : decide (t492 = t497 && (t493 == t498 && (t494 == t499))) = true := by simpa using c15))
   (try (have c15b2 : (t492 == t497 && (t493 == t498 && (t494 == t499))) = true := by simpa using c15))
   clear c15
   by_cases c16 : t495 = t500; rotate_left
   · rw [if_neg c16] at H; exact absurd H (by simp)
   rw [if_pos c16] at H
   have c16b0 : (t495 == t500) = true := beq_iff_eq.mpr c16
   have c16b1 : (t495 != t500) = false := bne_eq_false_iff_eq.mpr c16
   clear c16
   replace H := Option.bind_eq_some_iff.mp H
   obtain ⟨t502, A170, H⟩ := H
   replace H : (some t502) = some r := H
   have A17 := am A170
   clear A170
   obtain rfl := Option.some.inj H
   go_enter Try.func4, Try.ntmps4
   go_wp2_with (first | ((with_reducible refine gate_dst (N := 3) rfl ?_); refine box_event yz (N := 3) yz (cs := #[.int .i64 a0_0, .int .i64 a0_1, .slice A0_2 l0_2.length c0_2]) (t := 42) gz ?_; intro gb488 hg w18 hbox hb; have BK488 := am (hbox); have GW488 := gwz (g := gb488) HB hg; have GE488 := GW488; replace HB := am (below_step bz hb); clear hb hbox hg) | ((with_reducible refine gate_dst (N := 4) rfl ?_); refine box_event yz (N := 4) yz (cs := #[.slice A1_0 l1_0.length c1_0, .slice A1_1 l1_1.length c1_1]) (t := 25) gz ?_; intro gb489 hg w19 hbox hb; have BK489 := am (hbox); have GW489 := gwz (g := gb489) HB hg; have GE489 := GW489; replace HB := am (below_step bz hb); have NB488_489 := nlt (g' := gb489) BK488 hg; have NB489_488 := ngt (g' := gb489) BK488 hg; replace BK488 := am (blk_below (o := .cells #[.int .i64 a0_0, .int .i64 a0_1, .slice A0_2 l0_2.length c0_2] 42 (0, 0)) (kz BK488) hb); clear hb hbox hg; have hnb20 := NB489_488.out; have hnc20 := NB488_489.out; obtain ⟨hcz21_0, hcz21_1, hfz21_0, hfz21_1⟩ := kc2 BK489.out) | ((with_reducible refine gate_callee (f := 9) rfl ?_); refine goesL_ (some 12) rfl rfl Try.func9 qz rfl #[.agg #[.slice A1_0 l1_0.length c1_0, .slice A1_1 l1_1.length c1_1]] rfl mz ?_; (with_reducible refine (dancestudiolaw43_great.calls _ _ l1_0 _ _ l1_1 false _ ?side1 ?side2 ?side3 ?side4 A4.out).mono ?_); (case side1 => exact cz HR1_0); (case side2 => exact HC1_0.out); (case side3 => exact cz HR1_1); (case side4 => exact HC1_1.out); rintro e w22 ⟨rfl, hb⟩; refine ⟨_, rfl, ?_⟩; replace BK488 := am (blk_below (o := .cells #[.int .i64 a0_0, .int .i64 a0_1, .slice A0_2 l0_2.length c0_2] 42 (0, 0)) (kz BK488) hb); replace BK489 := am (blk_below (o := .cells #[.slice A1_0 l1_0.length c1_0, .slice A1_1 l1_1.length c1_1] 25 (0, 0)) (kz BK489) hb); replace HB := am (below_step bz hb); (try clear hb); (try clear hb2); (try clear hk); (try clear hi); obtain ⟨hcz23_0, hcz23_1, hcz23_2, hfz23_0, hfz23_1, hfz23_2⟩ := kc3 BK488.out; obtain ⟨hcz24_0, hcz24_1, hfz24_0, hfz24_1⟩ := kc2 BK489.out) | ((with_reducible refine gate_callee (f := 19) rfl ?_); refine goesL_ (some 18) rfl rfl Try.func19 qz rfl #[.agg #[.int .i64 a0_0, .int .i64 a0_1, .slice A0_2 l0_2.length c0_2], .agg #[.slice A1_0 l1_0.length c1_0, .slice A1_1 l1_1.length c1_1], .int .i64 a2] rfl mz ?_; (with_reducible refine (floor_First.calls k a0_0 a0_1 _ _ l0_2 _ _ l1_0 _ _ l1_1 a2 t492 t493 t494 t495 _ ?side1 ?side2 ?side3 ?side4 ?side5 ?side6 A13.out).mono ?_); (case side1 => exact cz HR0_2); (case side2 => exact HC0_2.out); (case side3 => exact cz HR1_0); (case side4 => exact HC1_0.out); (case side5 => exact cz HR1_1); (case side6 => exact HC1_1.out); rintro e w25 ⟨rfl, hb⟩; refine ⟨_, rfl, ?_⟩; replace BK488 := am (blk_below (o := .cells #[.int .i64 a0_0, .int .i64 a0_1, .slice A0_2 l0_2.length c0_2] 42 (0, 0)) (kz BK488) hb); replace BK489 := am (blk_below (o := .cells #[.slice A1_0 l1_0.length c1_0, .slice A1_1 l1_1.length c1_1] 25 (0, 0)) (kz BK489) hb); replace HB := am (below_step bz hb); (try clear hb); (try clear hb2); (try clear hk); (try clear hi)) | ((with_reducible refine gate_dst (N := 7) rfl ?_); refine box_event yz (N := 7) yz (cs := #[.int .i64 0, .int .i64 0, .int .i64 0]) (t := 44) gz ?_; intro gb496 hg w26 hbox hb; have BK496 := am (hbox); have GW496 := gwz (g := gb496) HB hg; have GE496 := GW496; replace HB := am (below_step bz hb); have NB488_496 := nlt (g' := gb496) BK488 hg; have NB496_488 := ngt (g' := gb496) BK488 hg; replace BK488 := am (blk_below (o := .cells #[.int .i64 a0_0, .int .i64 a0_1, .slice A0_2 l0_2.length c0_2] 42 (0, 0)) (kz BK488) hb); have NB489_496 := nlt (g' := gb496) BK489 hg; have NB496_489 := ngt (g' := gb496) BK489 hg; replace BK489 := am (blk_below (o := .cells #[.slice A1_0 l1_0.length c1_0, .slice A1_1 l1_1.length c1_1] 25 (0, 0)) (kz BK489) hb); clear hb hbox hg; have hnb27 := NB496_488.out; have hnc27 := NB488_496.out; have hnb28 := NB496_489.out; have hnc28 := NB489_496.out; obtain ⟨hcz29_0, hcz29_1, hcz29_2, hfz29_0, hfz29_1, hfz29_2⟩ := kc3 BK496.out; obtain ⟨hcz30_0, hcz30_1, hcz30_2, hfz30_0, hfz30_1, hfz30_2⟩ := kc3 BK488.out; obtain ⟨hcz31_0, hcz31_1, hfz31_0, hfz31_1⟩ := kc2 BK489.out) | ((with_reducible refine gate_callee (f := 20) rfl ?_); refine goesL_ (some 25) rfl rfl Try.func20 qz rfl #[.agg #[.int .i64 a0_0, .int .i64 a0_1, .slice A0_2 l0_2.length c0_2], .agg #[.slice A1_0 l1_0.length c1_0, .slice A1_1 l1_1.length c1_1], .int .i64 a2] rfl mz ?_; (with_reducible refine (dancestudioref43_First.calls k a0_0 a0_1 _ _ l0_2 _ _ l1_0 _ _ l1_1 a2 t497 t498 t499 t500 _ ?side1 ?side2 ?side3 ?side4 ?side5 ?side6 A14.out).mono ?_); (case side1 => exact Kd.C_below HR0_2.out bz); (case side2 => exact HC0_2.out); (case side3 => exact Kd.C_below HR1_0.out bz); (case side4 => exact HC1_0.out); (case side5 => exact Kd.C_below HR1_1.out bz); (case side6 => exact HC1_1.out); rintro e w32 ⟨rfl, hb⟩; refine ⟨_, rfl, ?_⟩; replace BK488 := am (blk_below (o := .cells #[.int .i64 a0_0, .int .i64 a0_1, .slice A0_2 l0_2.length c0_2] 42 (0, 0)) (by (with_reducible repeat first | apply kN | apply kD | apply kA); refine blk_far ?_ NB488_496.out _; (with_reducible repeat first | apply kN | apply kD | apply kA); refine blk_far ?_ NB488_496.out _; (with_reducible repeat first | apply kN | apply kD | apply kA); refine blk_far ?_ NB488_496.out _; (with_reducible repeat first | apply kN | apply kD | apply kA); exact BK488.out) hb); replace BK489 := am (blk_below (o := .cells #[.slice A1_0 l1_0.length c1_0, .slice A1_1 l1_1.length c1_1] 25 (0, 0)) (by (with_reducible repeat first | apply kN | apply kD | apply kA); refine blk_far ?_ NB489_496.out _; (with_reducible repeat first | apply kN | apply kD | apply kA); refine blk_far ?_ NB489_496.out _; (with_reducible repeat first | apply kN | apply kD | apply kA); refine blk_far ?_ NB489_496.out _; (with_reducible repeat first | apply kN | apply kD | apply kA); exact BK489.out) hb); replace BK496 := am (blk_below (o := .cells #[.int .i64 t492, .int .i64 t493, .int .i64 t494] 44 (0, 0)) (by (with_reducible repeat first | apply kN | apply kD | apply kA); refine blk_put (cs := #[.int .i64 t492, .int .i64 t493, .int .i64 0]) ?_ 2 _ rfl; (with_reducible repeat first | apply kN | apply kD | apply kA); refine blk_put (cs := #[.int .i64 t492, .int .i64 0, .int .i64 0]) ?_ 1 _ rfl; (with_reducible repeat first | apply kN | apply kD | apply kA); refine blk_put (cs := #[.int .i64 0, .int .i64 0, .int .i64 0]) ?_ 0 _ rfl; (with_reducible repeat first | apply kN | apply kD | apply kA); exact BK496.out) hb); replace HB := am (below_step bz hb); (try clear hb); (try clear hb2); (try clear hk); (try clear hi)) | ((with_reducible refine gate_dst (N := 9) rfl ?_); refine box_event yz (N := 9) yz (cs := #[.int .i64 0, .int .i64 0, .int .i64 0]) (t := 44) gz ?_; intro gb501 hg w33 hbox hb; have BK501 := am (hbox); have GW501 := gwz (g := gb501) HB hg; have GE501 := GW501; replace HB := am (below_step bz hb); have NB488_501 := nlt (g' := gb501) BK488 hg; have NB501_488 := ngt (g' := gb501) BK488 hg; replace BK488 := am (blk_below (o := .cells #[.int .i64 a0_0, .int .i64 a0_1, .slice A0_2 l0_2.length c0_2] 42 (0, 0)) (kz BK488) hb); have NB489_501 := nlt (g' := gb501) BK489 hg; have NB501_489 := ngt (g' := gb501) BK489 hg; replace BK489 := am (blk_below (o := .cells #[.slice A1_0 l1_0.length c1_0, .slice A1_1 l1_1.length c1_1] 25 (0, 0)) (kz BK489) hb); have NB496_501 := nlt (g' := gb501) BK496 hg; have NB501_496 := ngt (g' := gb501) BK496 hg; replace BK496 := am (blk_below (o := .cells #[.int .i64 t492, .int .i64 t493, .int .i64 t494] 44 (0, 0)) (kz BK496) hb); clear hb hbox hg; have hnb34 := NB501_488.out; have hnc34 := NB488_501.out; have hnb35 := NB501_489.out; have hnc35 := NB489_501.out; have hnb36 := NB501_496.out; have hnc36 := NB496_501.out; obtain ⟨hcz37_0, hcz37_1, hcz37_2, hfz37_0, hfz37_1, hfz37_2⟩ := kc3 BK501.out; obtain ⟨hcz38_0, hcz38_1, hcz38_2, hfz38_0, hfz38_1, hfz38_2⟩ := kc3 BK496.out) | (go_at_call 10; (with_reducible refine (dancestudiolaw43_awake.calls  t502 _ A17.out).mono ?_); rintro e w39 ⟨rfl, hb⟩; replace BK488 := am (blk_below (o := .cells #[.int .i64 a0_0, .int .i64 a0_1, .slice A0_2 l0_2.length c0_2] 42 (0, 0)) (by (with_reducible repeat first | apply kN | apply kD | apply kA); refine blk_far ?_ NB488_501.out _; (with_reducible repeat first | apply kN | apply kD | apply kA); refine blk_far ?_ NB488_501.out _; (with_reducible repeat first | apply kN | apply kD | apply kA); refine blk_far ?_ NB488_501.out _; (with_reducible repeat first | apply kN | apply kD | apply kA); exact BK488.out) hb); replace BK489 := am (blk_below (o := .cells #[.slice A1_0 l1_0.length c1_0, .slice A1_1 l1_1.length c1_1] 25 (0, 0)) (by (with_reducible repeat first | apply kN | apply kD | apply kA); refine blk_far ?_ NB489_501.out _; (with_reducible repeat first | apply kN | apply kD | apply kA); refine blk_far ?_ NB489_501.out _; (with_reducible repeat first | apply kN | apply kD | apply kA); refine blk_far ?_ NB489_501.out _; (with_reducible repeat first | apply kN | apply kD | apply kA); exact BK489.out) hb); replace BK496 := am (blk_below (o := .cells #[.int .i64 t492, .int .i64 t493, .int .i64 t494] 44 (0, 0)) (by (with_reducible repeat first | apply kN | apply kD | apply kA); refine blk_far ?_ NB496_501.out _; (with_reducible repeat first | apply kN | apply kD | apply kA); refine blk_far ?_ NB496_501.out _; (with_reducible repeat first | apply kN | apply kD | apply kA); refine blk_far ?_ NB496_501.out _; (with_reducible repeat first | apply kN | apply kD | apply kA); exact BK496.out) hb); replace BK501 := am (blk_below (o := .cells #[.int .i64 t497, .int .i64 t498, .int .i64 t499] 44 (0, 0)) (by (with_reducible repeat first | apply kN | apply kD | apply kA); refine blk_put (cs := #[.int .i64 t497, .int .i64 t498, .int .i64 0]) ?_ 2 _ rfl; (with_reducible repeat first | apply kN | apply kD | apply kA); refine blk_put (cs := #[.int .i64 t497, .int .i64 0, .int .i64 0]) ?_ 1 _ rfl; (with_reducible repeat first | apply kN | apply kD | apply kA); refine blk_put (cs := #[.int .i64 0, .int .i64 0, .int .i64 0]) ?_ 0 _ rfl; (with_reducible repeat first | apply kN | apply kD | apply kA); exact BK501.out) hb); replace HB := am (below_step bz hb); (try clear hb); (try clear hb2); (try clear hk); (try clear hi)))
   go_ret
   exact ⟨ez, bz⟩
  ·
   rw [if_neg c15] at H
   exact absurd H (by simp)

end Go.Proofs.Ytmdmajfgpmopbaa.X

/- Movements: the checks of the package and of the reference, as printed, are one. -/
namespace Go.Proofs.Ytmdmajfgpmopbaa.Fl
open Go.RowKit Go.Proofs.YtmdmajfgpmopbaaW.PrintWords Go.Proofs.Ytmdmajfgpmopbaa.X
set_option linter.unusedVariables false
set_option linter.unusedSimpArgs false

abbrev Sp := S53
theorem w64 {x : Int} (h0 : -9223372036854775808 ≤ x) (h1 : x ≤ 9223372036854775807) : wrap64 x = x := by unfold wrap64; omega
theorem rdP {l : List Sp} {i : Nat} {x : Sp} {r : List Sp} (h : l.drop i = x :: r) : rd_T53 l (i : Int) = x ∧ i < l.length ∧ l.drop (i + 1) = r := by
  have hi : i < l.length := by
    apply Nat.lt_of_not_le
    intro hh
    rw [List.drop_of_length_le hh] at h
    cases h
  rw [List.drop_eq_getElem_cons hi] at h
  simp only [List.cons.injEq] at h
  refine ⟨?_, hi, h.2⟩
  unfold rd_T53
  simp only [Int.toNat_natCast]
  rw [List.getD_eq_getElem?_getD, List.getElem?_eq_getElem hi]
  exact h.1
theorem rdI {l : List Int} {i : Nat} {x : Int} {r : List Int} (h : l.drop i = x :: r) : rd l (i : Int) = x ∧ i < l.length ∧ l.drop (i + 1) = r := by
  have hi : i < l.length := by
    apply Nat.lt_of_not_le
    intro hh
    rw [List.drop_of_length_le hh] at h
    cases h
  rw [List.drop_eq_getElem_cons hi] at h
  simp only [List.cons.injEq] at h
  refine ⟨?_, hi, h.2⟩
  unfold rd
  simp only [Int.toNat_natCast]
  rw [List.getD_eq_getElem?_getD, List.getElem?_eq_getElem hi]
  exact h.1

/-! ### a limb's aim -/
def okA (limb a b c : Int) : Int :=
  if limb ≥ 0 ∧ limb < 6 then (if a < 0 ∨ a > 255 ∨ b < -64 ∨ b > 64 ∨ c < 0 ∨ c > 6 then 1 else if b = 64 ∨ b = -64 then (if a = 0 then 0 else 2) else 0) else 9
theorem aim_j (k : Nat) (x : Bool) (a b c : Int) : aim_Check.j0 (k + 1) x a b c = some (if x = true then 1 else if b = 64 ∨ b = -64 then (if a = 0 then 0 else 2) else 0) := by
  rw [aim_Check.j0]
  cases x with
  | true => rw [if_pos rfl, if_pos rfl]
  | false =>
    simp only [Bool.false_eq_true, if_false, aim_upright.f]
    by_cases h : b = 64
    · rw [if_pos h, Option.bind_some, if_pos rfl, if_pos (show b = 64 ∨ b = -64 from Or.inl h)]
      by_cases h2 : a = 0
      · rw [if_pos h2, if_pos h2]
      · rw [if_neg h2, if_neg h2]
    · rw [if_neg h, Option.bind_some]
      by_cases h3 : b = -64
      · rw [if_pos (show (b == -64) = true by simpa using h3), if_pos (show b = 64 ∨ b = -64 from Or.inr h3)]
        by_cases h2 : a = 0
        · rw [if_pos h2, if_pos h2]
        · rw [if_neg h2, if_neg h2]
      · rw [if_neg (show ¬ (b == -64) = true by simpa using h3), if_neg (show ¬ (b = 64 ∨ b = -64) by omega)]
theorem okA_of (limb a b c : Int) (hl : 0 ≤ limb ∧ limb < 6) : okA limb a b c =
    if a < 0 then 1 else if a > 255 then 1 else if b < (-64) then 1 else if b > 64 then 1 else if c < 0 then 1 else
      if decide (c > 6) = true then 1 else if b = 64 ∨ b = -64 then (if a = 0 then 0 else 2) else 0 := by
  unfold okA
  rw [if_pos ⟨hl.1, hl.2⟩]
  by_cases h1 : a < 0
  · rw [if_pos (by omega), if_pos h1]
  by_cases h2 : a > 255
  · rw [if_pos (by omega), if_neg h1, if_pos h2]
  by_cases h3 : b < -64
  · rw [if_pos (by omega), if_neg h1, if_neg h2, if_pos h3]
  by_cases h4 : b > 64
  · rw [if_pos (by omega), if_neg h1, if_neg h2, if_neg h3, if_pos h4]
  by_cases h5 : c < 0
  · rw [if_pos (by omega), if_neg h1, if_neg h2, if_neg h3, if_neg h4, if_pos h5]
  by_cases h6 : c > 6
  · rw [if_pos (by omega), if_neg h1, if_neg h2, if_neg h3, if_neg h4, if_neg h5, if_pos (show decide (c > 6) = true by simpa using h6)]
  · rw [if_neg (show ¬ (a < 0 ∨ a > 255 ∨ b < -64 ∨ b > 64 ∨ c < 0 ∨ c > 6) by omega), if_neg h1, if_neg h2, if_neg h3, if_neg h4, if_neg h5, if_neg (show ¬ decide (c > 6) = true by simpa using h6)]
theorem push {c : Prop} [Decidable c] (a : Int) (o : Option Int) (b : Int) (h : o = some b) : (if c then some a else o) = some (if c then a else b) := by split <;> first | rfl | exact h
theorem aim_f (k : Nat) (hk : 1 ≤ k) (limb a b c : Int) (hl : 0 ≤ limb ∧ limb < 6) : aim_Check.f k limb a b c = some (okA limb a b c) := by
  obtain ⟨k, rfl⟩ : ∃ m, k = m + 1 := ⟨k - 1, by omega⟩
  unfold aim_Check.f aim_known.f
  rw [if_pos hl.1, Option.bind_some, if_pos (by simpa using hl.2), okA_of limb a b c hl]
  simp only [aim_j, if_true]
  refine push _ _ _ (push _ _ _ (push _ _ _ (push _ _ _ (push _ _ _ rfl))))
/-! ### a pose -/
def On (p : Sp) : Prop := -32768 ≤ p.f0.f0 ∧ p.f0.f0 ≤ 32768 ∧ -32768 ≤ p.f0.f1 ∧ p.f0.f1 ≤ 32768
instance (p : Sp) : Decidable (On p) := by unfold On; infer_instance
def aims (p : Sp) : Int :=
  if okA 0 p.f3.f0.f0 p.f3.f0.f1 p.f3.f0.f2 = 0 then
  if okA 1 p.f3.f1.f0 p.f3.f1.f1 p.f3.f1.f2 = 0 then
  if okA 2 p.f3.f2.f0 p.f3.f2.f1 p.f3.f2.f2 = 0 then
  if okA 3 p.f3.f3.f0 p.f3.f3.f1 p.f3.f3.f2 = 0 then
  if okA 4 p.f3.f4.f0 p.f3.f4.f1 p.f3.f4.f2 = 0 then
  if okA 5 p.f3.f5.f0 p.f3.f5.f1 p.f3.f5.f2 = 0 then 0
  else okA 5 p.f3.f5.f0 p.f3.f5.f1 p.f3.f5.f2 else okA 4 p.f3.f4.f0 p.f3.f4.f1 p.f3.f4.f2 else okA 3 p.f3.f3.f0 p.f3.f3.f1 p.f3.f3.f2
  else okA 2 p.f3.f2.f0 p.f3.f2.f1 p.f3.f2.f2 else okA 1 p.f3.f1.f0 p.f3.f1.f1 p.f3.f1.f2 else okA 0 p.f3.f0.f0 p.f3.f0.f1 p.f3.f0.f2
def V (p : Sp) : Int := if On p then (if p.f1 < 0 then 1 else if p.f1 > 255 then 1 else if p.f2 < (-8) then 1 else if p.f2 > 8 then 1 else aims p) else 1
theorem pull {c : Prop} [Decidable c] (a b : Int) (o : Option Int) (h : o = some a) : (if c then o else some b) = some (if c then a else b) := by split <;> first | exact h | rfl
theorem on_f (p : Sp) : posture_on.f p.f0.f0 p.f0.f1 = some (decide (On p)) := by
  unfold posture_on.f
  by_cases h1 : p.f0.f0 ≥ (-32768)
  · rw [if_pos h1]
    by_cases h2 : p.f0.f0 ≤ 32768
    · rw [if_pos h2]
      by_cases h3 : p.f0.f1 ≥ (-32768)
      · rw [if_pos h3]
        by_cases h4 : p.f0.f1 ≤ 32768
        · rw [decide_eq_true h4, decide_eq_true (show On p from ⟨h1, h2, h3, h4⟩)]
        · rw [decide_eq_false h4, decide_eq_false (fun h : On p => h4 h.2.2.2)]
      · rw [if_neg h3, decide_eq_false (fun h : On p => h3 h.2.2.1)]
    · rw [if_neg h2, decide_eq_false (fun h : On p => h2 h.2.1)]
  · rw [if_neg h1, decide_eq_false (fun h : On p => h1 h.1)]
theorem pv_f (k : Nat) (hk : 1 ≤ k) (p : Sp) : posture_Valid.f k p.f0.f0 p.f0.f1 p.f1 p.f2 p.f3.f0.f0 p.f3.f0.f1 p.f3.f0.f2 p.f3.f1.f0 p.f3.f1.f1 p.f3.f1.f2 p.f3.f2.f0 p.f3.f2.f1 p.f3.f2.f2 p.f3.f3.f0 p.f3.f3.f1 p.f3.f3.f2 p.f3.f4.f0 p.f3.f4.f1 p.f3.f4.f2 p.f3.f5.f0 p.f3.f5.f1 p.f3.f5.f2 = some (V p) := by
  unfold posture_Valid.f
  rw [on_f, Option.bind_some, V]
  by_cases h : On p
  · rw [if_pos (by simpa using h), if_pos h]
    refine push _ _ _ (push _ _ _ (push _ _ _ (push _ _ _ ?_)))
    rw [aim_f k hk _ _ _ _ (by omega), aim_f k hk _ _ _ _ (by omega), aim_f k hk _ _ _ _ (by omega), aim_f k hk _ _ _ _ (by omega), aim_f k hk _ _ _ _ (by omega), aim_f k hk _ _ _ _ (by omega)]
    rw [Option.bind_some, Option.bind_some, Option.bind_some, Option.bind_some, Option.bind_some, Option.bind_some]
    unfold aims
    exact pull _ _ _ (pull _ _ _ (pull _ _ _ (pull _ _ _ (pull _ _ _ (pull _ _ _ rfl)))))
  · rw [if_neg (by simpa using h), if_neg h]
/-! ### a movement -/
def poses : List Sp → Int
  | [] => 0
  | p :: l => if V p = 0 then poses l else V p
def feet : List Int → Int
  | [] => 0
  | x :: l => if x < 0 then 1 else if x > 3 then 1 else feet l
def chk (P : List Sp) (U : List Int) : Int :=
  if U.length < 1 ∨ 8192 < U.length ∨ P.length ≠ U.length + 1 then 2 else if poses P = 0 then feet U else poses P
theorem m_l1 (U : List Int) (hU : U.length ≤ 8192) : ∀ (s : List Int) (i k : Nat), U.drop i = s → s.length < k → movement_Check.l1 k U (U.length : Int) (i : Int) = some (feet s) := by
  intro s
  induction s with
  | nil =>
    intro i k hd hk
    obtain ⟨k, rfl⟩ : ∃ m, k = m + 1 := ⟨k - 1, by omega⟩
    have hi : U.length ≤ i := List.drop_eq_nil_iff.1 hd
    rw [movement_Check.l1, if_neg (by omega)]
    rfl
  | cons x s ih =>
    intro i k hd hk
    simp only [List.length_cons] at hk
    obtain ⟨k, rfl⟩ : ∃ m, k = m + 1 := ⟨k - 1, by omega⟩
    obtain ⟨hx, hi, hn⟩ := rdI hd
    rw [movement_Check.l1, if_pos (by omega), if_pos (by omega), if_pos (by omega), hx, w64 (by omega) (by omega), show (i : Int) + 1 = ((i + 1 : Nat) : Int) by omega, feet]
    exact push _ _ _ (push _ _ _ (ih (i + 1) k hn (by omega)))
theorem m_l0 (P : List Sp) (U : List Int) (hP : P.length ≤ 8193) (hU : U.length ≤ 8192) : ∀ (s : List Sp) (i k : Nat), P.drop i = s → s.length + U.length + 1 < k →
    movement_Check.l0 k P (P.length : Int) (i : Int) P U = some (if poses s = 0 then feet U else poses s) := by
  intro s
  induction s with
  | nil =>
    intro i k hd hk
    obtain ⟨k, rfl⟩ : ∃ m, k = m + 1 := ⟨k - 1, by omega⟩
    have hi : P.length ≤ i := List.drop_eq_nil_iff.1 hd
    rw [movement_Check.l0, if_neg (by omega), show (0 : Int) = ((0 : Nat) : Int) by rfl, m_l1 U hU U 0 k (by simp) (by simp at hk; omega), poses]
    rfl
  | cons x s ih =>
    intro i k hd hk
    simp only [List.length_cons] at hk
    obtain ⟨k, rfl⟩ : ∃ m, k = m + 1 := ⟨k - 1, by omega⟩
    obtain ⟨hx, hi, hn⟩ := rdP hd
    rw [movement_Check.l0, if_pos (by omega), if_pos (by omega), if_pos (by omega), hx, pv_f k (by omega), Option.bind_some, w64 (by omega) (by omega), show (i : Int) + 1 = ((i + 1 : Nat) : Int) by omega, ih (i + 1) k hn (by omega), poses]
    by_cases h : V x = 0
    · rw [if_pos h, if_pos h]
    · rw [if_neg h, if_neg h, if_neg h]
theorem m_f (k : Nat) (P : List Sp) (U : List Int) (hP : P.length ≤ 9223372036854775000) (hU : U.length ≤ 9223372036854775000) (hk : 16500 ≤ k) : movement_Check.f k P U = some (chk P U) := by
  obtain ⟨k, rfl⟩ : ∃ m, k = m + 1 := ⟨k - 1, by omega⟩
  unfold movement_Check.f chk
  rw [w64 (by omega) (by omega)]
  by_cases h1 : U.length < 1
  · rw [if_pos (by omega), if_pos (Or.inl h1), movement_Check.j0, if_pos rfl]
  rw [if_neg (by omega)]
  by_cases h2 : 8192 < U.length
  · rw [if_pos (by omega), if_pos (Or.inr (Or.inl h2)), movement_Check.j0, if_pos rfl]
  rw [if_neg (by omega)]
  by_cases h3 : P.length = U.length + 1
  · rw [if_neg (by omega), show ((P.length : Int) != (U.length : Int) + 1) = false from bne_eq_false_iff_eq.mpr (by omega), movement_Check.j0, if_neg (by simp), show (0 : Int) = ((0 : Nat) : Int) by rfl, m_l0 P U (by omega) (by omega) P 0 k (by simp) (by omega)]
    rfl
  · rw [if_pos (Or.inr (Or.inr h3)), show ((P.length : Int) != (U.length : Int) + 1) = true from bne_iff_ne.mpr (by omega), movement_Check.j0, if_pos rfl]
/-- What a movement that is taken is like. -/
theorem chk_ok {P : List Sp} {U : List Int} (h : chk P U = 0) : 1 ≤ U.length ∧ U.length ≤ 8192 ∧ P.length = U.length + 1 ∧ poses P = 0 ∧ feet U = 0 := by
  unfold chk at h
  split at h
  · cases h
  · rename_i h1
    split at h
    · rename_i h2; exact ⟨by omega, by omega, by omega, h2, h⟩
    · rename_i h2; exact absurd h h2
theorem poses_on {P : List Sp} (h : poses P = 0) : ∀ p ∈ P, On p := by
  induction P with
  | nil => intro q hq; cases hq
  | cons p l ih =>
    intro q hq
    rw [poses] at h
    by_cases hv : V p = 0
    · rw [if_pos hv] at h
      rcases List.mem_cons.1 hq with e | hq
      · subst e
        apply Decidable.byContradiction
        intro hn
        rw [V, if_neg hn] at hv
        exact absurd hv (by decide)
      · exact ih h q hq
    · rw [if_neg hv] at h
      exact absurd h hv
end Go.Proofs.Ytmdmajfgpmopbaa.Fl

/- The path of a movement: the package's and the reference's, as printed, are one. -/
namespace Go.Proofs.Ytmdmajfgpmopbaa.Fl
open Go.RowKit Go.Proofs.YtmdmajfgpmopbaaW.PrintWords Go.Proofs.Ytmdmajfgpmopbaa.X
set_option linter.unusedVariables false
set_option linter.unusedSimpArgs false
theorem nt {b : Bool} (h : ¬ b = true) : (!b) = true := by cases b <;> simp_all
abbrev Pt := S35
/-- The pose at a tick. -/
def ps (P : List Sp) (i : Nat) : Sp := rd_T53 P (i : Int)
def pt (P : List Sp) (i : Nat) : Pt := ⟨(ps P i).f0.f0, (ps P i).f0.f1⟩
/-- The step from a tick to the next one. -/
def sx (P : List Sp) (i : Nat) : Int := wrap64 ((ps P (i + 1)).f0.f0 - (ps P i).f0.f0)
def sy (P : List Sp) (i : Nat) : Int := wrap64 ((ps P (i + 1)).f0.f1 - (ps P i).f0.f1)
theorem step_f (P : List Sp) (U : List Int) (i : Nat) (h : i + 1 < P.length) (hP : P.length ≤ 8193) : floor_step.f P U (i : Int) = some (sx P i, sy P i) := by
  unfold floor_step.f sx sy ps
  rw [w64 (x := (i : Int) + 1) (by omega) (by omega), if_pos (by omega), if_pos (by omega), if_pos (by omega), if_pos (by omega), show (i : Int) + 1 = ((i + 1 : Nat) : Int) by omega]
/-- Is a tick kept. -/
def keep (P : List Sp) (n i : Nat) : Bool := decide (i = 0) || decide (i = n) || !(sx P (i - 1) == sx P i && sy P (i - 1) == sy P i)
def ids (P : List Sp) (n i m : Nat) : List Nat := (List.range' i m).filter (keep P n)
theorem ids_zero (P : List Sp) (n i : Nat) : ids P n i 0 = [] := rfl
theorem ids_succ (P : List Sp) (n i m : Nat) : ids P n i (m + 1) = if keep P n i = true then i :: ids P n (i + 1) m else ids P n (i + 1) m := by
  unfold ids
  rw [List.range'_succ, List.filter_cons]
theorem keep_end (P : List Sp) (n i : Nat) (h : i = 0 ∨ i = n) : keep P n i = true := by
  unfold keep
  rcases h with h | h
  · rw [decide_eq_true h]; rfl
  · rw [decide_eq_true h, Bool.or_true]; rfl
theorem keep_mid (P : List Sp) (n i : Nat) (h : 0 < i) (h2 : i ≠ n) : keep P n i = !(sx P (i - 1) == sx P i && sy P (i - 1) == sy P i) := by
  unfold keep
  rw [decide_eq_false (by omega), decide_eq_false h2]
  rfl
theorem fp_l0 (P : List Sp) (U : List Int) (hl : P.length = U.length + 1) (hU : U.length ≤ 8192) : ∀ (m i k : Nat) (A : List Pt) (B : List Int), i + m = P.length → m < k → A.length ≤ i → B.length ≤ i →
    floor_Path.l0 k A B P (P.length : Int) (i : Int) P U = some (A ++ (ids P U.length i m).map (pt P), B ++ (ids P U.length i m).map (fun (j : Nat) => (j : Int)), 0) := by
  intro m
  induction m with
  | zero =>
    intro i k A B hi hk hA hB
    obtain ⟨k, rfl⟩ : ∃ m, k = m + 1 := ⟨k - 1, by omega⟩
    rw [floor_Path.l0, if_neg (by omega), ids_zero, List.map_nil, List.map_nil, List.append_nil, List.append_nil]
  | succ m ih =>
    intro i k A B hi hk hA hB
    obtain ⟨k, rfl⟩ : ∃ m, k = m + 1 := ⟨k - 1, by omega⟩
    have next : keep P U.length i = true → floor_Path.l0 k (A ++ [(⟨(rd_T53 P (i : Int)).f0.f0, (rd_T53 P (i : Int)).f0.f1⟩ : Pt)]) (B ++ [(i : Int)]) P (P.length : Int) (((i + 1 : Nat) : Int)) P U
        = some (A ++ (ids P U.length i (m + 1)).map (pt P), B ++ (ids P U.length i (m + 1)).map (fun (j : Nat) => (j : Int)), 0) := by
      intro hkeep
      rw [ih (i + 1) k _ _ (by omega) (by omega) (by simp; omega) (by simp; omega), ids_succ, if_pos hkeep, List.map_cons, List.map_cons, List.append_assoc, List.append_assoc]
      rfl
    rw [floor_Path.l0, if_pos (by omega), if_pos (by omega), if_pos (by omega), w64 (x := (i : Int) + 1) (by omega) (by omega), show (i : Int) + 1 = ((i + 1 : Nat) : Int) by omega]
    by_cases h0 : i = 0
    · rw [if_neg (by omega), if_pos (by omega), if_pos (by omega)]
      exact next (keep_end _ _ _ (Or.inl h0))
    · rw [if_pos (by omega)]
      by_cases h1 : i < U.length
      · rw [if_pos (by omega), w64 (x := (i : Int) - 1) (by omega) (by omega), show (i : Int) - 1 = ((i - 1 : Nat) : Int) by omega, step_f P U (i - 1) (by omega) (by omega), step_f P U i (by omega) (by omega), Option.bind_some, Option.bind_some]
        by_cases hs : (sx P (i - 1) == sx P i && (sy P (i - 1) == sy P i)) = true
        · rw [if_pos hs, ih (i + 1) k _ _ (by omega) (by omega) (by omega) (by omega), ids_succ, if_neg (by rw [keep_mid _ _ _ (by omega) (by omega), hs]; simp)]
        · rw [if_neg hs, if_pos (by omega), if_pos (by omega)]
          exact next (by rw [keep_mid _ _ _ (by omega) (by omega)]; exact nt hs)
      · rw [if_neg (by omega), if_pos (by omega), if_pos (by omega)]
        exact next (keep_end _ _ _ (Or.inr (by omega)))
/-- The path's answer. -/
def pathV (P : List Sp) (U : List Int) : List Pt × List Int × Int :=
  if chk P U = 0 then ((ids P U.length 0 P.length).map (pt P), (ids P U.length 0 P.length).map (fun (j : Nat) => (j : Int)), 0) else ([], [], chk P U)
theorem fp_f (k : Nat) (P : List Sp) (U : List Int) (hP : P.length ≤ 200) (hU : U.length ≤ 200) (hk : 17000 ≤ k) : floor_Path.f k P U = some (pathV P U) := by
  unfold floor_Path.f pathV
  rw [m_f k P U (by omega) (by omega) (by omega), Option.bind_some]
  by_cases h : chk P U = 0
  · rw [if_pos h, if_pos h]
    obtain ⟨h1, h2, h3, _, _⟩ := chk_ok h
    rw [show (floor_Path.l0 k [] [] P (P.length : Int) 0 P U) = floor_Path.l0 k [] [] P (P.length : Int) ((0 : Nat) : Int) P U from rfl, fp_l0 P U h3 h2 P.length 0 k [] [] (by omega) (by omega) (by simp) (by simp)]
    rfl
  · rw [if_neg h, if_neg h]
theorem pathV_len (P : List Sp) (U : List Int) (hP : P.length ≤ 200) : (pathV P U).1.length ≤ 200 ∧ (pathV P U).2.1.length ≤ 200 := by
  have hl : (ids P U.length 0 P.length).length ≤ P.length := by
    unfold ids
    exact Nat.le_trans (List.length_filter_le _ _) (by rw [List.length_range']; exact Nat.le_refl _)
  unfold pathV
  split
  · simp only [List.length_map]; omega
  · simp
/-! ### lists that are equal -/
theorem same_l0 (L : List Pt) (hL : L.length ≤ 1000) : ∀ (m i k : Nat), i + m = L.length → m < k → dancestudioref43_Same.l0 k L L (i : Int) = some true := by
  intro m
  induction m with
  | zero =>
    intro i k hi hk
    obtain ⟨k, rfl⟩ : ∃ m, k = m + 1 := ⟨k - 1, by omega⟩
    rw [dancestudioref43_Same.l0, if_neg (by omega)]
  | succ m ih =>
    intro i k hi hk
    obtain ⟨k, rfl⟩ : ∃ m, k = m + 1 := ⟨k - 1, by omega⟩
    rw [dancestudioref43_Same.l0, if_pos (by omega), if_pos (by omega), if_pos (by omega), beq_self_eq_true, beq_self_eq_true, if_neg (by simp), w64 (by omega) (by omega), show (i : Int) + 1 = ((i + 1 : Nat) : Int) by omega]
    exact ih (i + 1) k (by omega) (by omega)
theorem ints_l0 (L : List Int) (hL : L.length ≤ 1000) : ∀ (m i k : Nat), i + m = L.length → m < k → dancestudioref25_Ints.l0 k L L (i : Int) = some true := by
  intro m
  induction m with
  | zero =>
    intro i k hi hk
    obtain ⟨k, rfl⟩ : ∃ m, k = m + 1 := ⟨k - 1, by omega⟩
    rw [dancestudioref25_Ints.l0, if_neg (by omega)]
  | succ m ih =>
    intro i k hi hk
    obtain ⟨k, rfl⟩ : ∃ m, k = m + 1 := ⟨k - 1, by omega⟩
    rw [dancestudioref25_Ints.l0, if_pos (by omega), if_pos (by omega), if_pos (by omega), if_pos rfl, w64 (by omega) (by omega), show (i : Int) + 1 = ((i + 1 : Nat) : Int) by omega]
    exact ih (i + 1) k (by omega) (by omega)
theorem same_f (k : Nat) (L : List Pt) (hL : L.length ≤ 200) (hk : 300 ≤ k) : dancestudioref43_Same.f k L L = some true := by
  unfold dancestudioref43_Same.f
  rw [if_pos rfl]
  exact same_l0 L (by omega) L.length 0 k (by omega) (by omega)
theorem ints_f (k : Nat) (L : List Int) (hL : L.length ≤ 200) (hk : 300 ≤ k) : dancestudioref25_Ints.f k L L = some true := by
  unfold dancestudioref25_Ints.f
  rw [if_pos rfl]
  exact ints_l0 L (by omega) L.length 0 k (by omega) (by omega)
end Go.Proofs.Ytmdmajfgpmopbaa.Fl

/- The root: the package's and the reference's, as printed, are one. -/
namespace Go.Proofs.Ytmdmajfgpmopbaa.Fl
open Go.RowKit Go.Proofs.YtmdmajfgpmopbaaW.PrintWords Go.Proofs.Ytmdmajfgpmopbaa.X
set_option linter.unusedVariables false
set_option linter.unusedSimpArgs false
/-- r is the whole root of x. -/
def IsRt (x r : Int) : Prop := 0 ≤ r ∧ r * r ≤ x ∧ x < (r + 1) * (r + 1)
theorem sq_le {a b : Int} (h0 : 0 ≤ a) (h : a ≤ b) : a * a ≤ b * b := Int.mul_le_mul h h h0 (by omega)
theorem sq_lt_of {a b : Int} (hb : 0 ≤ b) (h : a * a < b * b) : a < b := by
  apply Decidable.byContradiction
  intro hn
  have := sq_le hb (show b ≤ a by omega)
  omega
theorem rt_unique {x a b : Int} (ha : IsRt x a) (hb : IsRt x b) : a = b := by
  have h1 : a < b + 1 := sq_lt_of (by have := hb.1; omega) (by have := ha.2.1; have := hb.2.2; omega)
  have h2 : b < a + 1 := sq_lt_of (by have := ha.1; omega) (by have := hb.2.1; have := ha.2.2; omega)
  omega
theorem shl_one (e : Nat) (he : e ≤ 25) : shl .i64 1 (e : Int) = ((2 ^ e : Nat) : Int) ∧ 1 ≤ 2 ^ e ∧ 2 ^ e ≤ 33554432 := by
  rcases (show e = 0 ∨ e = 1 ∨ e = 2 ∨ e = 3 ∨ e = 4 ∨ e = 5 ∨ e = 6 ∨ e = 7 ∨ e = 8 ∨ e = 9 ∨ e = 10 ∨ e = 11 ∨ e = 12 ∨ e = 13 ∨ e = 14 ∨ e = 15 ∨ e = 16 ∨ e = 17 ∨ e = 18 ∨ e = 19 ∨ e = 20 ∨ e = 21 ∨ e = 22 ∨ e = 23 ∨ e = 24 ∨ e = 25 by omega) with h | h | h | h | h | h | h | h | h | h | h | h | h | h | h | h | h | h | h | h | h | h | h | h | h | h <;> subst h <;> exact ⟨rfl, by decide, by decide⟩
theorem rt_l0 (x : Int) (hx : 0 ≤ x) : ∀ (e k : Nat) (y : Int), e ≤ 26 → e < k → 0 ≤ y → y + ((2 ^ e : Nat) : Int) ≤ 67108864 → y * y ≤ x → x < (y + ((2 ^ e : Nat) : Int)) * (y + ((2 ^ e : Nat) : Int)) →
    ∃ r, IsRt x r ∧ num_Root.l0 k x y (26 - (e : Int)) = some (r, 0) := by
  intro e
  induction e with
  | zero =>
    intro k y he hk hy hb h1 h2
    obtain ⟨k, rfl⟩ : ∃ m, k = m + 1 := ⟨k - 1, by omega⟩
    refine ⟨y, ⟨hy, h1, h2⟩, ?_⟩
    rw [num_Root.l0, if_neg (by omega)]
  | succ e ih =>
    intro k y he hk hy hb h1 h2
    obtain ⟨k, rfl⟩ : ∃ m, k = m + 1 := ⟨k - 1, by omega⟩
    obtain ⟨s1, s2, s3⟩ := shl_one e (by omega)
    rw [show (2 ^ (e + 1) : Nat) = 2 * 2 ^ e by rw [Nat.pow_succ, Nat.mul_comm]] at hb h2
    generalize hp : (2 ^ e : Nat) = p at s1 s2 s3 hb h2 ih
    rw [num_Root.l0, if_pos (by omega), w64 (x := 25 - (26 - ((e + 1 : Nat) : Int))) (by omega) (by omega), show 25 - (26 - ((e + 1 : Nat) : Int)) = (e : Int) by omega, s1, if_pos (by omega), w64 (x := y + (p : Int)) (by omega) (by omega)]
    have hq : (y + (p : Int)) * (y + (p : Int)) ≤ 67108864 * 67108864 := sq_le (by omega) (by omega)
    have hq0 : 0 ≤ (y + (p : Int)) * (y + (p : Int)) := Int.mul_nonneg (by omega) (by omega)
    rw [w64 (x := (y + (p : Int)) * (y + (p : Int))) (by omega) (by omega), w64 (x := 26 - ((e + 1 : Nat) : Int) + 1) (by omega) (by omega), show 26 - ((e + 1 : Nat) : Int) + 1 = 26 - (e : Int) by omega]
    rw [show y + ((2 * p : Nat) : Int) = y + (p : Int) + (p : Int) by omega] at h2
    by_cases hc : (y + (p : Int)) * (y + (p : Int)) ≤ x
    · rw [if_pos hc]
      exact ih k (y + (p : Int)) (by omega) (by omega) (by omega) (by omega) hc h2
    · rw [if_neg hc]
      exact ih k y (by omega) (by omega) hy (by omega) h1 (by omega)
/-- The root of a number, as the package takes it. -/
def rt (x : Int) : Int := ((num_Root.f 100 x).getD (0, 0)).1
theorem root_ex (k : Nat) (hk : 40 ≤ k) (x : Int) (h0 : 0 ≤ x) (h1 : x ≤ 1125899906842624) : ∃ r, IsRt x r ∧ num_Root.f k x = some (r, 0) := by
  obtain ⟨k, rfl⟩ : ∃ m, k = m + 1 := ⟨k - 1, by omega⟩
  unfold num_Root.f
  rw [if_neg (by omega), decide_eq_false (by omega), num_Root.j0, if_neg (by simp)]
  exact rt_l0 x h0 26 k 0 (by omega) (by omega) (by omega) (by decide) (by omega) (by have : ((0 : Int) + ((2 ^ 26 : Nat) : Int)) * (0 + ((2 ^ 26 : Nat) : Int)) = 4503599627370496 := (by decide); omega)
theorem rt_is (x : Int) (h0 : 0 ≤ x) (h1 : x ≤ 1125899906842624) : IsRt x (rt x) := by
  obtain ⟨r, hr, he⟩ := root_ex 100 (by omega) x h0 h1
  unfold rt
  rw [he]
  exact hr
theorem root_f (k : Nat) (hk : 40 ≤ k) (x : Int) (h0 : 0 ≤ x) (h1 : x ≤ 1125899906842624) : num_Root.f k x = some (rt x, 0) := by
  obtain ⟨r, hr, he⟩ := root_ex k hk x h0 h1
  rw [he, rt_unique hr (rt_is x h0 h1)]
end Go.Proofs.Ytmdmajfgpmopbaa.Fl

/- The way of a movement: the package's and the reference's, as printed, are one. -/
namespace Go.Proofs.Ytmdmajfgpmopbaa.Fl
open Go.RowKit Go.Proofs.YtmdmajfgpmopbaaW.PrintWords Go.Proofs.Ytmdmajfgpmopbaa.X
set_option linter.unusedVariables false
set_option linter.unusedSimpArgs false
theorem ps_mem {P : List Sp} {i : Nat} (h : i < P.length) : ps P i ∈ P := by
  unfold ps rd_T53
  rw [Int.toNat_natCast, List.getD_eq_getElem?_getD, List.getElem?_eq_getElem h]
  exact List.getElem_mem h
theorem ps_on {P : List Sp} {U : List Int} (h : chk P U = 0) {i : Nat} (hi : i < P.length) : On (ps P i) := poses_on (chk_ok h).2.2.2.1 _ (ps_mem hi)
theorem sx_eq {P : List Sp} {U : List Int} (h : chk P U = 0) {i : Nat} (hi : i + 1 < P.length) : sx P i = (ps P (i + 1)).f0.f0 - (ps P i).f0.f0 ∧ -65536 ≤ sx P i ∧ sx P i ≤ 65536 := by
  obtain ⟨a1, a2, a3, a4⟩ := ps_on h (show i < P.length by omega)
  obtain ⟨b1, b2, b3, b4⟩ := ps_on h hi
  unfold sx
  rw [w64 (by omega) (by omega)]
  omega
theorem sy_eq {P : List Sp} {U : List Int} (h : chk P U = 0) {i : Nat} (hi : i + 1 < P.length) : sy P i = (ps P (i + 1)).f0.f1 - (ps P i).f0.f1 ∧ -65536 ≤ sy P i ∧ sy P i ≤ 65536 := by
  obtain ⟨a1, a2, a3, a4⟩ := ps_on h (show i < P.length by omega)
  obtain ⟨b1, b2, b3, b4⟩ := ps_on h hi
  unfold sy
  rw [w64 (by omega) (by omega)]
  omega
theorem sq_bd {a b : Int} (hb : 0 ≤ b) (h1 : -b ≤ a) (h2 : a ≤ b) : 0 ≤ a * a ∧ a * a ≤ b * b := by
  by_cases h : 0 ≤ a
  · exact ⟨Int.mul_nonneg h h, sq_le h h2⟩
  · rw [show a * a = -a * -a by rw [Int.neg_mul_neg]]
    exact ⟨Int.mul_nonneg (by omega) (by omega), sq_le (by omega) (by omega)⟩
/-- The square of a step's length. -/
def qs (P : List Sp) (i : Nat) : Int := sx P i * sx P i + sy P i * sy P i
theorem qs_bd {P : List Sp} {U : List Int} (h : chk P U = 0) {i : Nat} (hi : i + 1 < P.length) : 0 ≤ sx P i * sx P i ∧ sx P i * sx P i ≤ 4294967296 ∧ 0 ≤ sy P i * sy P i ∧ sy P i * sy P i ≤ 4294967296 := by
  have h1 := sq_bd (b := 65536) (by omega) (sx_eq h hi).2.1 (sx_eq h hi).2.2
  have h2 := sq_bd (b := 65536) (by omega) (sy_eq h hi).2.1 (sy_eq h hi).2.2
  omega
/-- The way's sum from a tick on. -/
def wy (P : List Sp) : Nat → Nat → Int → Int
  | 0, _, s => s
  | m + 1, i, s => wy P m (i + 1) (wrap64 (s + rt (qs P i)))
theorem fw_l0 (P : List Sp) (U : List Int) (h : chk P U = 0) : ∀ (m i k : Nat) (s : Int), i + m = U.length → m + 50 < k →
    floor_Way.l0 k s (U.length : Int) (i : Int) P U = some (wy P m i s, 0) := by
  obtain ⟨c1, c2, c3, _, _⟩ := chk_ok h
  intro m
  induction m with
  | zero =>
    intro i k s hi hk
    obtain ⟨k, rfl⟩ : ∃ m, k = m + 1 := ⟨k - 1, by omega⟩
    rw [floor_Way.l0, if_neg (by omega)]
    rfl
  | succ m ih =>
    intro i k s hi hk
    obtain ⟨k, rfl⟩ : ∃ m, k = m + 1 := ⟨k - 1, by omega⟩
    obtain ⟨q1, q2, q3, q4⟩ := qs_bd h (show i + 1 < P.length by omega)
    rw [floor_Way.l0, if_pos (by omega), step_f P U i (by omega) (by omega), Option.bind_some, w64 (x := sx P i * sx P i) (by omega) (by omega), w64 (x := sy P i * sy P i) (by omega) (by omega), w64 (x := sx P i * sx P i + sy P i * sy P i) (by omega) (by omega), root_f k (by omega) _ (by omega) (by omega), Option.bind_some, w64 (x := (i : Int) + 1) (by omega) (by omega), show (i : Int) + 1 = ((i + 1 : Nat) : Int) by omega]
    exact ih (i + 1) k _ (by omega) (by omega)
/-- The way's answer. -/
def wayV (P : List Sp) (U : List Int) : Int × Int := if chk P U = 0 then (wy P U.length 0 0, 0) else (0, chk P U)
theorem fw_f (k : Nat) (P : List Sp) (U : List Int) (hP : P.length ≤ 200) (hU : U.length ≤ 200) (hk : 17000 ≤ k) : floor_Way.f k P U = some (wayV P U) := by
  unfold floor_Way.f wayV
  rw [m_f k P U (by omega) (by omega) (by omega), Option.bind_some]
  by_cases h : chk P U = 0
  · rw [if_pos h, if_pos h]
    exact fw_l0 P U h U.length 0 k 0 (by omega) (by omega)
  · rw [if_neg h, if_neg h]
end Go.Proofs.Ytmdmajfgpmopbaa.Fl

/- Plain geometry of moving discs: when two of them touch. -/
namespace Go.Proofs.Ytmdmajfgpmopbaa.Geo
open Go.RowKit Go.Proofs.YtmdmajfgpmopbaaW.PrintWords
set_option linter.unusedVariables false

/-- -1, 0 or 1. -/
def cmp (x y : Int) : Int := if x < y then -1 else if x > y then 1 else 0
theorem cmp_lt (x y : Int) : cmp x y < 0 ↔ x < y := by
  unfold cmp
  split
  · omega
  · split <;> omega
theorem cmp_le (x y : Int) : cmp x y ≤ 0 ↔ x ≤ y := by
  unfold cmp
  split
  · omega
  · split <;> omega
/-- The square of the least distance of the origin from the way from d on by v, held against r2. -/
def nr (dx dy vx vy r2 : Int) : Int :=
  if -(dx * vx + dy * vy) ≤ 0 then cmp (dx * dx + dy * dy) r2
  else if -(dx * vx + dy * vy) ≥ vx * vx + vy * vy then cmp ((dx + vx) * (dx + vx) + (dy + vy) * (dy + vy)) r2
  else cmp ((dx * vy - dy * vx) * (dx * vy - dy * vx)) (r2 * (vx * vx + vy * vy))
theorem sq_nonneg (x : Int) : 0 ≤ x * x := by
  rcases Int.le_total 0 x with h | h
  · exact Int.mul_nonneg h h
  · have := Int.mul_nonneg (a := -x) (b := -x) (by omega) (by omega)
    rwa [Int.neg_mul_neg] at this
theorem lagrange (a b c d : Int) : (a * d - b * c) * (a * d - b * c) + (a * c + b * d) * (a * c + b * d) = (a * a + b * b) * (c * c + d * d) := by grind
theorem nr_neg_far (dx dy vx vy r2 : Int) (h0 : dx * dx + dy * dy < r2) : nr dx dy vx vy r2 < 0 := by
  unfold nr
  have hv : 0 ≤ vx * vx + vy * vy := Int.add_nonneg (sq_nonneg _) (sq_nonneg _)
  split
  · rw [cmp_lt]; exact h0
  · rename_i h1
    split
    · rename_i h2
      rw [cmp_lt]
      have e : (dx + vx) * (dx + vx) + (dy + vy) * (dy + vy) = dx * dx + dy * dy + 2 * (dx * vx + dy * vy) + (vx * vx + vy * vy) := by grind
      omega
    · rename_i h2
      rw [cmp_lt]
      have e := lagrange dx dy vx vy
      have h3 := sq_nonneg (dx * vx + dy * vy)
      have hpos : 0 < vx * vx + vy * vy := by omega
      have h4 : (dx * dx + dy * dy) * (vx * vx + vy * vy) < r2 * (vx * vx + vy * vy) := Int.mul_lt_mul_of_pos_right h0 hpos
      omega
theorem nr_neg_end (dx dy vx vy r2 : Int) (h0 : (dx + vx) * (dx + vx) + (dy + vy) * (dy + vy) < r2) : nr dx dy vx vy r2 < 0 := by
  unfold nr
  have hv : 0 ≤ vx * vx + vy * vy := Int.add_nonneg (sq_nonneg _) (sq_nonneg _)
  have e : (dx + vx) * (dx + vx) + (dy + vy) * (dy + vy) = dx * dx + dy * dy + 2 * (dx * vx + dy * vy) + (vx * vx + vy * vy) := by grind
  split
  · rw [cmp_lt]; omega
  · rename_i h1
    split
    · rw [cmp_lt]; exact h0
    · rename_i h2
      rw [cmp_lt]
      have e2 := lagrange (dx + vx) (dy + vy) vx vy
      have h3 := sq_nonneg ((dx + vx) * vx + (dy + vy) * vy)
      have e3 : (dx + vx) * vy - (dy + vy) * vx = dx * vy - dy * vx := by grind
      rw [e3] at e2
      have hpos : 0 < vx * vx + vy * vy := by omega
      have h4 : ((dx + vx) * (dx + vx) + (dy + vy) * (dy + vy)) * (vx * vx + vy * vy) < r2 * (vx * vx + vy * vy) := Int.mul_lt_mul_of_pos_right h0 hpos
      omega
/-- The reference's way to say it. -/
theorem nr_ref (dx dy vx vy r2 : Int) : (nr dx dy vx vy r2 < 0) ↔ (dx * dx + dy * dy < r2 ∨ (dx + vx) * (dx + vx) + (dy + vy) * (dy + vy) < r2 ∨ (¬ -(dx * vx + dy * vy) ≤ 0 ∧ ¬ -(dx * vx + dy * vy) ≥ vx * vx + vy * vy ∧ (dx * vy - dy * vx) * (dx * vy - dy * vx) < r2 * (vx * vx + vy * vy))) := by
  constructor
  · intro h
    unfold nr at h
    split at h
    · exact .inl ((cmp_lt _ _).1 h)
    · rename_i h1
      split at h
      · exact .inr (.inl ((cmp_lt _ _).1 h))
      · rename_i h2
        exact .inr (.inr ⟨h1, h2, (cmp_lt _ _).1 h⟩)
  · rintro (h | h | ⟨h1, h2, h⟩)
    · exact nr_neg_far _ _ _ _ _ h
    · exact nr_neg_end _ _ _ _ _ h
    · unfold nr
      rw [if_neg h1, if_neg h2, cmp_lt]
      exact h
/-- With a lesser radius nothing more is touched. -/
theorem nr_mono (dx dy vx vy r2 s2 : Int) (h : r2 ≤ s2) (h0 : nr dx dy vx vy r2 < 0) : nr dx dy vx vy s2 < 0 := by
  have hv : 0 ≤ vx * vx + vy * vy := Int.add_nonneg (sq_nonneg _) (sq_nonneg _)
  unfold nr at h0 ⊢
  split at h0
  · rename_i h1
    rw [if_pos h1, cmp_lt]
    rw [cmp_lt] at h0
    omega
  · rename_i h1
    rw [if_neg h1]
    split at h0
    · rename_i h2
      rw [if_pos h2, cmp_lt]
      rw [cmp_lt] at h0
      omega
    · rename_i h2
      rw [if_neg h2, cmp_lt]
      rw [cmp_lt] at h0
      have := Int.mul_le_mul_of_nonneg_right h hv
      omega
/-- In the mirror. -/
theorem nr_mirror (dx dy vx vy r2 : Int) : nr (-dx) dy (-vx) vy r2 = nr dx dy vx vy r2 := by
  have e1 : -dx * -vx = dx * vx := Int.neg_mul_neg _ _
  have e2 : -vx * -vx = vx * vx := Int.neg_mul_neg _ _
  have e3 : -dx * -dx = dx * dx := Int.neg_mul_neg _ _
  have e4 : (-dx + -vx) * (-dx + -vx) = (dx + vx) * (dx + vx) := by grind
  have e5 : (-dx * vy - dy * -vx) * (-dx * vy - dy * -vx) = (dx * vy - dy * vx) * (dx * vy - dy * vx) := by grind
  unfold nr
  rw [e1, e2, e3, e4, e5]
/-- Backwards. -/
theorem nr_back (dx dy vx vy r2 : Int) : (nr (dx + vx) (dy + vy) (-vx) (-vy) r2 < 0) ↔ (nr dx dy vx vy r2 < 0) := by
  rw [nr_ref, nr_ref]
  have e0 : dx + vx + -vx = dx := by omega
  have e0' : dy + vy + -vy = dy := by omega
  have e1 : (dx + vx) * -vx + (dy + vy) * -vy = -(dx * vx + dy * vy) - (vx * vx + vy * vy) := by grind
  have e2 : -vx * -vx + -vy * -vy = vx * vx + vy * vy := by grind
  have e3 : ((dx + vx) * -vy - (dy + vy) * -vx) * ((dx + vx) * -vy - (dy + vy) * -vx) = (dx * vy - dy * vx) * (dx * vy - dy * vx) := by grind
  rw [e0, e0', e1, e2, e3]
  constructor
  · rintro (h | h | ⟨h1, h2, h⟩)
    · exact .inr (.inl h)
    · exact .inl h
    · exact .inr (.inr ⟨by omega, by omega, h⟩)
  · rintro (h | h | ⟨h1, h2, h⟩)
    · exact .inr (.inl h)
    · exact .inl h
    · exact .inr (.inr ⟨by omega, by omega, h⟩)
/-- Without touching: at every moment k / n they are apart. -/
theorem nr_apart (dx dy vx vy R n k : Int) (hn : 0 < n) (hk : 0 ≤ k) (hkn : k ≤ n) (h : ¬ nr dx dy vx vy (R * R) < 0) :
    (R * n) * (R * n) ≤ (n * dx + k * vx) * (n * dx + k * vx) + (n * dy + k * vy) * (n * dy + k * vy) := by
  have hnn := sq_nonneg n
  have hkk := sq_nonneg k
  have hjj := sq_nonneg (n - k)
  have hv : 0 ≤ vx * vx + vy * vy := Int.add_nonneg (sq_nonneg _) (sq_nonneg _)
  have eR : (R * n) * (R * n) = (n * n) * (R * R) := by grind
  have eP : (n * dx + k * vx) * (n * dx + k * vx) + (n * dy + k * vy) * (n * dy + k * vy) = (n * n) * (dx * dx + dy * dy) + 2 * (n * k) * (dx * vx + dy * vy) + (k * k) * (vx * vx + vy * vy) := by grind
  rw [eR]
  unfold nr at h
  split at h
  · rename_i h1
    rw [cmp_lt] at h
    rw [eP]
    have a1 := Int.mul_le_mul_of_nonneg_left (Int.not_lt.1 h) hnn
    have a2 : 0 ≤ 2 * (n * k) * (dx * vx + dy * vy) := Int.mul_nonneg (Int.mul_nonneg (by omega) (Int.mul_nonneg (by omega) hk)) (by omega)
    have a3 : 0 ≤ (k * k) * (vx * vx + vy * vy) := Int.mul_nonneg hkk hv
    omega
  · rename_i h1
    split at h
    · rename_i h2
      rw [cmp_lt] at h
      have eQ : (n * dx + k * vx) * (n * dx + k * vx) + (n * dy + k * vy) * (n * dy + k * vy) = (n * n) * ((dx + vx) * (dx + vx) + (dy + vy) * (dy + vy)) + 2 * (n * (n - k)) * (-(dx * vx + dy * vy) - (vx * vx + vy * vy)) + ((n - k) * (n - k)) * (vx * vx + vy * vy) := by grind
      rw [eQ]
      have a1 := Int.mul_le_mul_of_nonneg_left (Int.not_lt.1 h) hnn
      have a2 : 0 ≤ 2 * (n * (n - k)) * (-(dx * vx + dy * vy) - (vx * vx + vy * vy)) := Int.mul_nonneg (Int.mul_nonneg (by omega) (Int.mul_nonneg (by omega) (by omega))) (by omega)
      have a3 : 0 ≤ ((n - k) * (n - k)) * (vx * vx + vy * vy) := Int.mul_nonneg hjj hv
      omega
    · rename_i h2
      rw [cmp_lt] at h
      have hpos : 0 < vx * vx + vy * vy := by omega
      have e2 := lagrange (n * dx + k * vx) (n * dy + k * vy) vx vy
      have e3 : (n * dx + k * vx) * vy - (n * dy + k * vy) * vx = n * (dx * vy - dy * vx) := by grind
      rw [e3] at e2
      have e4 : n * (dx * vy - dy * vx) * (n * (dx * vy - dy * vx)) = (n * n) * ((dx * vy - dy * vx) * (dx * vy - dy * vx)) := by grind
      rw [e4] at e2
      have h3 := sq_nonneg ((n * dx + k * vx) * vx + (n * dy + k * vy) * vy)
      have a1 := Int.mul_le_mul_of_nonneg_left (Int.not_lt.1 h) hnn
      have e5 : (n * n) * (R * R * (vx * vx + vy * vy)) = ((n * n) * (R * R)) * (vx * vx + vy * vy) := by grind
      rw [e5] at a1
      exact Int.le_of_mul_le_mul_right (by omega) hpos
end Go.Proofs.Ytmdmajfgpmopbaa.Geo

/- The packages num and geom (and their references), as printed, compute the plain geometry. -/
namespace Go.Proofs.Ytmdmajfgpmopbaa.GeoImpl
open Go.RowKit Go.Proofs.YtmdmajfgpmopbaaW.PrintWords Go.Proofs.Ytmdmajfgpmopbaa.X Go.Proofs.Ytmdmajfgpmopbaa.Geo
set_option linter.unusedVariables false
set_option linter.unusedSimpArgs false

theorem w64 {x : Int} (h0 : -9223372036854775808 ≤ x) (h1 : x ≤ 9223372036854775807) : wrap64 x = x := by unfold wrap64; omega
theorem rd_of_drop {l : List Int} {i : Nat} {x : Int} {r : List Int} (h : l.drop i = x :: r) : rd l (i : Int) = x ∧ i < l.length ∧ l.drop (i + 1) = r := by
  have hi : i < l.length := by
    apply Nat.lt_of_not_le
    intro hh
    rw [List.drop_of_length_le hh] at h
    cases h
  rw [List.drop_eq_getElem_cons hi] at h
  simp only [List.cons.injEq] at h
  refine ⟨?_, hi, h.2⟩
  unfold rd
  simp only [Int.toNat_natCast]
  rw [List.getD_eq_getElem?_getD, List.getElem?_eq_getElem hi]
  exact h.1
theorem rdP_of_drop {l : List S35} {i : Nat} {x : S35} {r : List S35} (h : l.drop i = x :: r) : rd_T35 l (i : Int) = x ∧ i < l.length ∧ l.drop (i + 1) = r := by
  have hi : i < l.length := by
    apply Nat.lt_of_not_le
    intro hh
    rw [List.drop_of_length_le hh] at h
    cases h
  rw [List.drop_eq_getElem_cons hi] at h
  simp only [List.cons.injEq] at h
  refine ⟨?_, hi, h.2⟩
  unfold rd_T35
  simp only [Int.toNat_natCast]
  rw [List.getD_eq_getElem?_getD, List.getElem?_eq_getElem hi]
  exact h.1
/-- at most 2^50 -/
def sm (n : Int) : Prop := -1125899906842624 ≤ n ∧ n ≤ 1125899906842624
theorem small_l0 (l : List Int) (hl : l.length ≤ 1000) : ∀ (r : List Int) (i k : Nat), l.drop i = r → r.length < k → (∀ x ∈ r, sm x) → num_small.l0 k l (l.length : Int) (i : Int) = some true := by
  intro r
  induction r with
  | nil =>
    intro i k h hk _
    obtain ⟨k, rfl⟩ : ∃ m, k = m + 1 := ⟨k - 1, by omega⟩
    have : l.length ≤ i := by simpa using h
    simp only [num_small.l0]
    rw [if_neg (by omega)]
  | cons x r ih =>
    intro i k h hk hs
    obtain ⟨k, rfl⟩ : ∃ m, k = m + 1 := ⟨k - 1, by simp at hk; omega⟩
    obtain ⟨h1, h2, h3⟩ := rd_of_drop h
    have hx := hs x (by simp)
    unfold sm at hx
    simp only [num_small.l0]
    rw [if_pos (by omega), if_pos (by omega), if_pos (by omega), h1, if_neg (by omega), if_neg (by omega), w64 (by omega) (by omega), show (i : Int) + 1 = ((i + 1 : Nat) : Int) by omega]
    exact ih (i + 1) k h3 (by simp at hk; omega) (fun y hy => hs y (by simp [hy]))
theorem small_f (k : Nat) (l : List Int) (hl : l.length ≤ 1000) (hs : ∀ x ∈ l, sm x) (hk : l.length < k) : num_small.f k l = some true := by
  unfold num_small.f
  exact small_l0 l hl l 0 k (by simp) hk hs

/-! ### products -/
def sg (p : Int) : Int := if p < 0 then -1 else if p = 0 then 0 else 1
def ab (p : Int) : Int := if p < 0 then -p else p
theorem abs_f (a : Int) (h : sm a) : num_abs.f a = some (ab a) := by
  unfold num_abs.f sm at *
  rw [w64 (by omega) (by omega)]
  unfold mx ab
  congr 1
  split <;> split <;> omega
theorem ab_mul (a b : Int) : ab (a * b) = ab a * ab b := by
  have h : ∀ x, ab x = (x.natAbs : Int) := by intro x; unfold ab; split <;> omega
  rw [h, h, h, Int.natAbs_mul]
  simp
theorem mul_bd (a b A B : Int) (h : -A ≤ a ∧ a ≤ A) (h' : -B ≤ b ∧ b ≤ B) : -(A * B) ≤ a * b ∧ a * b ≤ A * B := by
  have e : ∀ x, ab x = (x.natAbs : Int) := by intro x; unfold ab; split <;> omega
  have h1 : ab (a * b) ≤ A * B := by
    rw [ab_mul]
    refine Int.mul_le_mul ?_ ?_ ?_ ?_
    · unfold ab; split <;> omega
    · unfold ab; split <;> omega
    · unfold ab; split <;> omega
    · omega
  unfold ab at h1
  split at h1 <;> omega
/-- How a product parts: high and low. -/
def hi (p : Int) : Int := ab p / 1125899906842624
def lo (p : Int) : Int := ab p % 1125899906842624
theorem sg_mul (a b : Int) (ha : a ≠ 0) (hb : b ≠ 0) : sg (a * b) = if (decide (a < 0) != decide (b < 0)) = true then -1 else 1 := by
  have hne : a * b ≠ 0 := Int.mul_ne_zero ha hb
  unfold sg
  by_cases h1 : a < 0
  · by_cases h2 : b < 0
    · have := Int.mul_pos_of_neg_of_neg h1 h2
      rw [if_neg (by omega), if_neg hne]
      simp [h1, h2]
    · have := Int.mul_neg_of_neg_of_pos h1 (show 0 < b by omega)
      rw [if_pos this]
      simp [h1, h2]
  · by_cases h2 : b < 0
    · have := Int.mul_neg_of_pos_of_neg (show 0 < a by omega) h2
      rw [if_pos this]
      simp [h1, h2]
    · have := Int.mul_pos (show 0 < a by omega) (show 0 < b by omega)
      rw [if_neg (by omega), if_neg hne]
      simp [h1, h2]
theorem parts (x y : Int) (hx0 : 0 ≤ x) (hy0 : 0 ≤ y) : x * y = (x / 33554432 * (y / 33554432)) * 1125899906842624 + (x / 33554432 * (y % 33554432) + x % 33554432 * (y / 33554432)) * 33554432 + x % 33554432 * (y % 33554432) := by
  have e1 : x = x / 33554432 * 33554432 + x % 33554432 := by omega
  have e2 : y = y / 33554432 * 33554432 + y % 33554432 := by omega
  generalize x / 33554432 = a at *
  generalize x % 33554432 = b at *
  generalize y / 33554432 = c at *
  generalize y % 33554432 = d at *
  subst e1
  subst e2
  grind
theorem times_f (k : Nat) (a b : Int) (ha : sm a) (hb : sm b) (hk : 3 ≤ k) : num_times.f k a b = some (sg (a * b), hi (a * b), lo (a * b)) := by
  obtain ⟨k, rfl⟩ : ∃ m, k = m + 1 := ⟨k - 1, by omega⟩
  unfold num_times.f
  rw [abs_f a ha, abs_f b hb, Option.bind_some, Option.bind_some]
  by_cases h1 : ab a = 0
  · rw [if_pos h1]
    have : a = 0 := by unfold ab at h1; split at h1 <;> omega
    subst this
    simp only [num_times.j0, if_true]
    rw [Int.zero_mul]
    rfl
  · rw [if_neg h1]
    by_cases h2 : ab b = 0
    · have : b = 0 := by unfold ab at h2; split at h2 <;> omega
      subst this
      rw [h2]
      simp only [num_times.j0]
      rw [if_pos (by rfl), Int.mul_zero]
      rfl
    · have hane : a ≠ 0 := by intro e; subst e; exact h1 rfl
      have hbne : b ≠ 0 := by intro e; subst e; exact h2 rfl
      have hx0 : 0 ≤ ab a := by unfold ab; split <;> omega
      have hy0 : 0 ≤ ab b := by unfold ab; split <;> omega
      have hx1 : ab a ≤ 1125899906842624 := by unfold ab; unfold sm at ha; split <;> omega
      have hy1 : ab b ≤ 1125899906842624 := by unfold ab; unfold sm at hb; split <;> omega
      have hp := parts (ab a) (ab b) hx0 hy0
      have hs := sg_mul a b hane hbne
      have hP : ab (a * b) = ab a * ab b := ab_mul a b
      have A1 := mul_bd (ab a / 33554432) (ab b / 33554432) 33554432 33554432 (by omega) (by omega)
      have B1 := mul_bd (ab a / 33554432) (ab b % 33554432) 33554432 33554432 (by omega) (by omega)
      have C1 := mul_bd (ab a % 33554432) (ab b / 33554432) 33554432 33554432 (by omega) (by omega)
      have D1 := mul_bd (ab a % 33554432) (ab b % 33554432) 33554431 33554431 (by omega) (by omega)
      have A0 := Int.mul_nonneg (a := ab a / 33554432) (b := ab b / 33554432) (by omega) (by omega)
      have B0 := Int.mul_nonneg (a := ab a / 33554432) (b := ab b % 33554432) (by omega) (by omega)
      have C0 := Int.mul_nonneg (a := ab a % 33554432) (b := ab b / 33554432) (by omega) (by omega)
      have D0 := Int.mul_nonneg (a := ab a % 33554432) (b := ab b % 33554432) (by omega) (by omega)
      simp only [num_times.j0]
      rw [show (ab b == 0) = false by simp [h2], if_neg (by simp)]
      rw [Int.tdiv_eq_ediv_of_nonneg hx0, Int.tdiv_eq_ediv_of_nonneg hy0, Int.tmod_eq_emod_of_nonneg hx0, Int.tmod_eq_emod_of_nonneg hy0]
      rw [w64 (x := ab a / 33554432) (by omega) (by omega), w64 (x := ab b / 33554432) (by omega) (by omega)]
      generalize ab a / 33554432 * (ab b / 33554432) = A at *
      generalize ab a / 33554432 * (ab b % 33554432) = B at *
      generalize ab a % 33554432 * (ab b / 33554432) = C at *
      generalize ab a % 33554432 * (ab b % 33554432) = D at *
      rw [w64 (x := A) (by omega) (by omega), w64 (x := B) (by omega) (by omega), w64 (x := C) (by omega) (by omega), w64 (x := D) (by omega) (by omega), w64 (x := B + C) (by omega) (by omega)]
      rw [Int.tdiv_eq_ediv_of_nonneg (a := B + C) (by omega), Int.tmod_eq_emod_of_nonneg (a := B + C) (by omega)]
      rw [w64 (x := (B + C) % 33554432 * 33554432) (by omega) (by omega), w64 (x := D + (B + C) % 33554432 * 33554432) (by omega) (by omega), w64 (x := (B + C) / 33554432) (by omega) (by omega)]
      rw [Int.tdiv_eq_ediv_of_nonneg (a := D + (B + C) % 33554432 * 33554432) (by omega), Int.tmod_eq_emod_of_nonneg (a := D + (B + C) % 33554432 * 33554432) (by omega)]
      rw [w64 (x := A + (B + C) / 33554432) (by omega) (by omega), w64 (x := (D + (B + C) % 33554432 * 33554432) / 1125899906842624) (by omega) (by omega), w64 (x := A + (B + C) / 33554432 + (D + (B + C) % 33554432 * 33554432) / 1125899906842624) (by omega) (by omega)]
      have e1 : A + (B + C) / 33554432 + (D + (B + C) % 33554432 * 33554432) / 1125899906842624 = hi (a * b) := by unfold hi; omega
      have e2 : (D + (B + C) % 33554432 * 33554432) % 1125899906842624 = lo (a * b) := by unfold lo; omega
      rw [e1, e2, hs]
      split <;> rfl
theorem order_f (a b : Int) : num_order.f a b = some (cmp a b) := by
  unfold num_order.f cmp
  split
  · rfl
  · split <;> rfl
theorem cmp_range (a b : Int) : -1 ≤ cmp a b ∧ cmp a b ≤ 1 := by
  unfold cmp
  split
  · omega
  · split <;> omega
theorem sg_range (a : Int) : -1 ≤ sg a ∧ sg a ≤ 1 := by
  unfold sg
  split
  · omega
  · split <;> omega
theorem cmp_sg (p q : Int) (h : sg p ≠ sg q) : cmp (sg p) (sg q) = cmp p q := by
  unfold cmp sg at *
  repeat' split at h
  all_goals (repeat' split)
  all_goals omega
theorem cmp_hi (p q : Int) (h : sg p = sg q) (h2 : hi p ≠ hi q) : sg p * cmp (hi p) (hi q) = cmp p q := by
  have e : sg p = -1 ∨ sg p = 0 ∨ sg p = 1 := by unfold sg; split; · simp
                                                 · split <;> simp
  rcases e with e | e | e <;> rw [e] at h ⊢ <;> unfold sg at e h <;> unfold cmp hi ab at * <;> (repeat' split at e) <;> (repeat' split at h) <;> first | omega | (repeat' split <;> omega)
theorem cmp_lo (p q : Int) (h : sg p = sg q) (h2 : hi p = hi q) : sg p * cmp (lo p) (lo q) = cmp p q := by
  have e : sg p = -1 ∨ sg p = 0 ∨ sg p = 1 := by unfold sg; split; · simp
                                                 · split <;> simp
  rcases e with e | e | e <;> rw [e] at h ⊢ <;> unfold sg at e h <;> unfold cmp hi lo ab at * <;> (repeat' split at e) <;> (repeat' split at h) <;> first | omega | (repeat' split <;> omega)
theorem compare_f (k : Nat) (a b c d : Int) (ha : sm a) (hb : sm b) (hc : sm c) (hd : sm d) (hk : 10 ≤ k) : num_Compare.f k a b c d = some (cmp (a * b) (c * d), 0) := by
  unfold num_Compare.f
  rw [small_f k _ (by simp) (by intro x hx; simp at hx; rcases hx with rfl | rfl | rfl | rfl <;> assumption) (by simp; omega), Option.bind_some, if_pos rfl, times_f k a b ha hb (by omega), times_f k c d hc hd (by omega), Option.bind_some, Option.bind_some]
  have r1 := sg_range (a * b)
  by_cases h1 : sg (a * b) = sg (c * d)
  · rw [if_pos h1]
    by_cases h2 : hi (a * b) = hi (c * d)
    · rw [if_pos h2, order_f, Option.bind_some, cmp_lo _ _ h1 h2]
      have := cmp_range (a * b) (c * d)
      rw [w64 (by omega) (by omega)]
    · rw [if_neg h2, order_f, Option.bind_some, cmp_hi _ _ h1 h2]
      have := cmp_range (a * b) (c * d)
      rw [w64 (by omega) (by omega)]
  · rw [if_neg h1, order_f, Option.bind_some, cmp_sg _ _ h1]

/-! ### the way of two discs -/
theorem dot_f (a b c d : Int) (ha : -262144 ≤ a ∧ a ≤ 262144) (hb : -262144 ≤ b ∧ b ≤ 262144) (hc : -262144 ≤ c ∧ c ≤ 262144) (hd : -262144 ≤ d ∧ d ≤ 262144) : geom_dot.f a b c d = some (a * c + b * d) ∧ -137438953472 ≤ a * c + b * d ∧ a * c + b * d ≤ 137438953472 := by
  have h1 := mul_bd a c 262144 262144 ha hc
  have h2 := mul_bd b d 262144 262144 hb hd
  unfold geom_dot.f
  rw [w64 (x := a * c) (by omega) (by omega), w64 (x := b * d) (by omega) (by omega), w64 (by omega) (by omega)]
  exact ⟨rfl, by omega, by omega⟩
theorem cross_f (a b c d : Int) (ha : -262144 ≤ a ∧ a ≤ 262144) (hb : -262144 ≤ b ∧ b ≤ 262144) (hc : -262144 ≤ c ∧ c ≤ 262144) (hd : -262144 ≤ d ∧ d ≤ 262144) : geom_cross.f a b c d = some (a * d - b * c) ∧ -137438953472 ≤ a * d - b * c ∧ a * d - b * c ≤ 137438953472 := by
  have h1 := mul_bd a d 262144 262144 ha hd
  have h2 := mul_bd b c 262144 262144 hb hc
  unfold geom_cross.f
  rw [w64 (x := a * d) (by omega) (by omega), w64 (x := b * c) (by omega) (by omega), w64 (by omega) (by omega)]
  exact ⟨rfl, by omega, by omega⟩
theorem nearest_f (k : Nat) (dx dy vx vy r2 : Int) (h1 : -65536 ≤ dx ∧ dx ≤ 65536) (h2 : -65536 ≤ dy ∧ dy ≤ 65536) (h3 : -131072 ≤ vx ∧ vx ≤ 131072) (h4 : -131072 ≤ vy ∧ vy ≤ 131072) (h5 : sm r2) (hk : 10 ≤ k) : geom_nearest.f k dx dy vx vy r2 = some (nr dx dy vx vy r2) := by
  obtain ⟨d1, b1, b1'⟩ := dot_f dx dy vx vy (by omega) (by omega) (by omega) (by omega)
  obtain ⟨d2, b2, b2'⟩ := dot_f vx vy vx vy (by omega) (by omega) (by omega) (by omega)
  obtain ⟨d3, b3, b3'⟩ := dot_f dx dy dx dy (by omega) (by omega) (by omega) (by omega)
  obtain ⟨d4, b4, b4'⟩ := dot_f (dx + vx) (dy + vy) (dx + vx) (dy + vy) (by omega) (by omega) (by omega) (by omega)
  obtain ⟨d5, b5, b5'⟩ := cross_f dx dy vx vy (by omega) (by omega) (by omega) (by omega)
  have one : sm 1 := ⟨by omega, by omega⟩
  unfold geom_nearest.f nr
  rw [d1, d2, Option.bind_some, Option.bind_some, w64 (x := -(dx * vx + dy * vy)) (by omega) (by omega)]
  by_cases c1 : -(dx * vx + dy * vy) ≤ 0
  · rw [if_pos c1, if_pos c1, d3, Option.bind_some, compare_f k _ _ _ _ ⟨by omega, by omega⟩ one h5 one hk, Option.bind_some, Int.mul_one, Int.mul_one]
  · rw [if_neg c1, if_neg c1]
    by_cases c2 : -(dx * vx + dy * vy) ≥ vx * vx + vy * vy
    · rw [if_pos c2, if_pos c2, w64 (x := dx + vx) (by omega) (by omega), w64 (x := dy + vy) (by omega) (by omega), d4, Option.bind_some, compare_f k _ _ _ _ ⟨by omega, by omega⟩ one h5 one hk, Option.bind_some, Int.mul_one, Int.mul_one]
    · rw [if_neg c2, if_neg c2, d5, Option.bind_some, compare_f k _ _ _ _ ⟨by omega, by omega⟩ ⟨by omega, by omega⟩ h5 ⟨by omega, by omega⟩ hk, Option.bind_some]
def pOk (x y : Int) : Bool := decide (-32768 ≤ x) && decide (x ≤ 32768) && decide (-32768 ≤ y) && decide (y ≤ 32768)
def rOk (r : Int) : Bool := decide (0 ≤ r) && decide (r ≤ 32768)
theorem pOk_iff (x y : Int) : pOk x y = true ↔ -32768 ≤ x ∧ x ≤ 32768 ∧ -32768 ≤ y ∧ y ≤ 32768 := by
  simp [pOk, and_assoc]
theorem rOk_iff (r : Int) : rOk r = true ↔ 0 ≤ r ∧ r ≤ 32768 := by
  simp [rOk]
theorem valid_l1 (l : List Int) (hl : l.length ≤ 1000) : ∀ (r : List Int) (i k : Nat), l.drop i = r → r.length < k → geom_valid.l1 k l (l.length : Int) (i : Int) = some (r.all rOk) := by
  intro r
  induction r with
  | nil =>
    intro i k h hk
    obtain ⟨k, rfl⟩ : ∃ m, k = m + 1 := ⟨k - 1, by omega⟩
    have : l.length ≤ i := by simpa using h
    simp only [geom_valid.l1]
    rw [if_neg (by omega)]
    rfl
  | cons x r ih =>
    intro i k h hk
    obtain ⟨k, rfl⟩ : ∃ m, k = m + 1 := ⟨k - 1, by simp at hk; omega⟩
    obtain ⟨h1, h2, h3⟩ := rd_of_drop h
    simp only [geom_valid.l1]
    rw [if_pos (by omega), if_pos (by omega), if_pos (by omega), h1, List.all_cons]
    by_cases c : rOk x = true
    · have c' := (rOk_iff x).1 c
      rw [if_neg (by omega), if_neg (by omega), w64 (by omega) (by omega), show (i : Int) + 1 = ((i + 1 : Nat) : Int) by omega, ih (i + 1) k h3 (by simp at hk; omega), c, Bool.true_and]
    · have c' : ¬ (0 ≤ x ∧ x ≤ 32768) := fun h => c ((rOk_iff x).2 h)
      rw [show rOk x = false by simpa using c, Bool.false_and]
      by_cases c2 : x < 0
      · rw [if_pos c2]
      · rw [if_neg c2, if_pos (by omega)]
theorem valid_l0 (rs : List Int) (hr : rs.length ≤ 1000) (l : List S35) (hl : l.length ≤ 1000) : ∀ (r : List S35) (i k : Nat), l.drop i = r → r.length + rs.length + 2 < k → geom_valid.l0 k rs l (l.length : Int) (i : Int) = some (r.all (fun p => pOk p.f0 p.f1) && rs.all rOk) := by
  intro r
  induction r with
  | nil =>
    intro i k h hk
    obtain ⟨k, rfl⟩ : ∃ m, k = m + 1 := ⟨k - 1, by omega⟩
    have : l.length ≤ i := by simpa using h
    simp only [geom_valid.l0]
    rw [if_neg (by omega)]
    have := valid_l1 rs hr rs 0 k (by simp) (by omega)
    rw [show ((0 : Nat) : Int) = 0 from rfl] at this
    rw [this]
    simp
  | cons x r ih =>
    intro i k h hk
    simp only [List.length_cons] at hk
    obtain ⟨k, rfl⟩ : ∃ m, k = m + 1 := ⟨k - 1, by omega⟩
    obtain ⟨h1, h2, h3⟩ := rdP_of_drop h
    simp only [geom_valid.l0]
    rw [if_pos (by omega), if_pos (by omega), if_pos (by omega), h1, List.all_cons]
    by_cases c : pOk x.f0 x.f1 = true
    · have c' := (pOk_iff _ _).1 c
      rw [if_neg (by omega), if_neg (by omega), if_neg (by omega), if_neg (by omega), w64 (by omega) (by omega), show (i : Int) + 1 = ((i + 1 : Nat) : Int) by omega, ih (i + 1) k h3 (by omega), c, Bool.true_and]
    · have c' : ¬ (-32768 ≤ x.f0 ∧ x.f0 ≤ 32768 ∧ -32768 ≤ x.f1 ∧ x.f1 ≤ 32768) := fun h => c ((pOk_iff x.f0 x.f1).2 h)
      rw [show pOk x.f0 x.f1 = false by simpa using c, Bool.false_and, Bool.false_and]
      by_cases c2 : x.f0 < -32768
      · rw [if_pos c2]
      · rw [if_neg c2]
        by_cases c3 : x.f0 > 32768
        · rw [if_pos c3]
        · rw [if_neg c3]
          by_cases c4 : x.f1 < -32768
          · rw [if_pos c4]
          · rw [if_neg c4, if_pos (by omega)]
theorem valid_f (k : Nat) (l : List S35) (rs : List Int) (hl : l.length ≤ 1000) (hr : rs.length ≤ 1000) (hk : l.length + rs.length + 2 < k) : geom_valid.f k l rs = some (l.all (fun p => pOk p.f0 p.f1) && rs.all rOk) := by
  unfold geom_valid.f
  exact valid_l0 rs hr l hl l 0 k (by simp) hk
def mOk (x y u v r : Int) : Bool := pOk x y && pOk u v && rOk r
theorem mOk_iff (x y u v r : Int) : mOk x y u v r = true ↔ (-32768 ≤ x ∧ x ≤ 32768 ∧ -32768 ≤ y ∧ y ≤ 32768) ∧ (-32768 ≤ u ∧ u ≤ 32768 ∧ -32768 ≤ v ∧ v ≤ 32768) ∧ 0 ≤ r ∧ r ≤ 32768 := by
  unfold mOk
  rw [Bool.and_eq_true, Bool.and_eq_true, pOk_iff, pOk_iff, rOk_iff, and_assoc]
/-- Do two moving discs touch; the error. -/
def tch (a0 a1 a2 a3 a4 b0 b1 b2 b3 b4 : Int) : Bool × Int :=
  if mOk a0 a1 a2 a3 a4 = true ∧ mOk b0 b1 b2 b3 b4 = true then (decide (nr (a0 - b0) (a1 - b1) ((a2 - a0) - (b2 - b0)) ((a3 - a1) - (b3 - b1)) ((a4 + b4) * (a4 + b4)) < 0), 0) else (false, 1)
theorem r2_sm (a b : Int) (ha : 0 ≤ a ∧ a ≤ 32768) (hb : 0 ≤ b ∧ b ≤ 32768) : 0 ≤ (a + b) * (a + b) ∧ (a + b) * (a + b) ≤ 4294967296 := by
  have := mul_bd (a + b) (a + b) 65536 65536 (by omega) (by omega)
  exact ⟨sq_nonneg _, by omega⟩
theorem touch_f (k : Nat) (a0 a1 a2 a3 a4 b0 b1 b2 b3 b4 : Int) (hk : 20 ≤ k) : geom_Touch.f k a0 a1 a2 a3 a4 b0 b1 b2 b3 b4 = some (tch a0 a1 a2 a3 a4 b0 b1 b2 b3 b4) := by
  unfold geom_Touch.f tch
  rw [valid_f k _ _ (by simp) (by simp) (by simp; omega), Option.bind_some]
  have e : ([(⟨a0, a1⟩ : S35), ⟨a2, a3⟩, ⟨b0, b1⟩, ⟨b2, b3⟩].all (fun p => pOk p.f0 p.f1) && [a4, b4].all rOk) = (mOk a0 a1 a2 a3 a4 && mOk b0 b1 b2 b3 b4) := by
    unfold mOk
    simp only [List.all_cons, List.all_nil, Bool.and_true]
    cases pOk a0 a1 <;> cases pOk a2 a3 <;> cases pOk b0 b1 <;> cases pOk b2 b3 <;> cases rOk a4 <;> cases rOk b4 <;> rfl
  rw [e]
  by_cases h : mOk a0 a1 a2 a3 a4 = true ∧ mOk b0 b1 b2 b3 b4 = true
  · rw [if_pos h, h.1, h.2, if_pos (by rfl)]
    obtain ⟨⟨p1, p2, p3, p4⟩, ⟨p5, p6, p7, p8⟩, p9, p10⟩ := (mOk_iff _ _ _ _ _).1 h.1
    obtain ⟨⟨q1, q2, q3, q4⟩, ⟨q5, q6, q7, q8⟩, q9, q10⟩ := (mOk_iff _ _ _ _ _).1 h.2
    have hr := r2_sm a4 b4 ⟨p9, p10⟩ ⟨q9, q10⟩
    unfold geom_minus.f
    rw [Option.bind_some, Option.bind_some, Option.bind_some, Option.bind_some]
    simp only
    rw [w64 (x := a0 - b0) (by omega) (by omega), w64 (x := a1 - b1) (by omega) (by omega), w64 (x := a2 - a0) (by omega) (by omega), w64 (x := a3 - a1) (by omega) (by omega), w64 (x := b2 - b0) (by omega) (by omega), w64 (x := b3 - b1) (by omega) (by omega), w64 (x := a2 - a0 - (b2 - b0)) (by omega) (by omega), w64 (x := a3 - a1 - (b3 - b1)) (by omega) (by omega), w64 (x := a4 + b4) (by omega) (by omega), w64 (x := (a4 + b4) * (a4 + b4)) (by omega) (by omega)]
    rw [nearest_f k _ _ _ _ _ (by omega) (by omega) (by omega) (by omega) ⟨by omega, by omega⟩ (by omega), Option.bind_some]
  · have e2 : (mOk a0 a1 a2 a3 a4 && mOk b0 b1 b2 b3 b4) = false := by
      rw [Bool.eq_false_iff]
      intro hh
      exact h (Bool.and_eq_true _ _ ▸ hh)
    rw [e2, if_neg (by simp), if_neg h]
end Go.Proofs.Ytmdmajfgpmopbaa.GeoImpl

/- The package stage, as printed. -/
namespace Go.Proofs.Ytmdmajfgpmopbaa.SImpl
open Go.RowKit Go.Proofs.YtmdmajfgpmopbaaW.PrintWords Go.Proofs.Ytmdmajfgpmopbaa.X Go.Proofs.Ytmdmajfgpmopbaa.Geo Go.Proofs.Ytmdmajfgpmopbaa.GeoImpl
set_option linter.unusedVariables false
set_option linter.unusedSimpArgs false
abbrev Blk := S64
theorem rdB_of_drop {l : List Blk} {i : Nat} {x : Blk} {r : List Blk} (h : l.drop i = x :: r) : rd_T64 l (i : Int) = x ∧ i < l.length ∧ l.drop (i + 1) = r := by
  have hi : i < l.length := by
    apply Nat.lt_of_not_le
    intro hh
    rw [List.drop_of_length_le hh] at h
    cases h
  rw [List.drop_eq_getElem_cons hi] at h
  simp only [List.cons.injEq] at h
  refine ⟨?_, hi, h.2⟩
  unfold rd_T64
  simp only [Int.toNat_natCast]
  rw [List.getD_eq_getElem?_getD, List.getElem?_eq_getElem hi]
  exact h.1
/-- Does a disc lie on the stage. -/
def inB (W D x y r : Int) : Bool := decide (-(W / 2) ≤ x - r) && decide (x + r ≤ W / 2) && decide (0 ≤ y - r) && decide (y + r ≤ D)
theorem inB_iff (W D x y r : Int) : inB W D x y r = true ↔ -(W / 2) ≤ x - r ∧ x + r ≤ W / 2 ∧ 0 ≤ y - r ∧ y + r ≤ D := by
  simp [inB, and_assoc]
def wdOk (W D : Int) : Prop := W % 2 = 0 ∧ 2 ≤ W ∧ W ≤ 65536 ∧ 1 ≤ D ∧ D ≤ 32768
instance (W D : Int) : Decidable (wdOk W D) := by unfold wdOk; exact inferInstance
def blkOk (W D : Int) (b : Blk) : Bool := inB W D b.f0.f0 b.f0.f1 0 && decide (1 ≤ b.f1) && decide (b.f1 ≤ 32768)
theorem blkOk_iff (W D : Int) (b : Blk) : blkOk W D b = true ↔ (-(W / 2) ≤ b.f0.f0 ∧ b.f0.f0 ≤ W / 2 ∧ 0 ≤ b.f0.f1 ∧ b.f0.f1 ≤ D) ∧ 1 ≤ b.f1 ∧ b.f1 ≤ 32768 := by
  unfold blkOk
  rw [Bool.and_eq_true, Bool.and_eq_true, inB_iff]
  simp [and_assoc]
/-- What Check returns. -/
def chk (W D : Int) (L : List Blk) : Int := if wdOk W D then (if L.length > 16 then 3 else if L.all (blkOk W D) = true then 0 else 29) else 29
theorem half (W : Int) (h : 2 ≤ W) (h1 : W ≤ 65536) (h2 : W % 2 = 0) : wrap64 (Int.tdiv (wrap64 (-W)) 2) = -(W / 2) ∧ wrap64 (Int.tdiv W 2) = W / 2 := by
  rw [w64 (x := -W) (by omega) (by omega), Int.neg_tdiv, Int.tdiv_eq_ediv_of_nonneg (by omega)]
  exact ⟨w64 (by omega) (by omega), w64 (by omega) (by omega)⟩
theorem on_f (W D : Int) (L : List Blk) (x y r : Int) (h : wdOk W D) (hp : -32768 ≤ x ∧ x ≤ 32768 ∧ -32768 ≤ y ∧ y ≤ 32768) (hr : 0 ≤ r ∧ r ≤ 32768) : stage_on.f W D L x y r = some (inB W D x y r) := by
  obtain ⟨h1, h2, h3, h4, h5⟩ := h
  obtain ⟨e1, e2⟩ := half W h2 h3 h1
  unfold stage_on.f inB
  rw [e1, e2, w64 (x := x - r) (by omega) (by omega), w64 (x := x + r) (by omega) (by omega), w64 (x := y - r) (by omega) (by omega), w64 (x := y + r) (by omega) (by omega)]
  by_cases c1 : -(W / 2) ≤ x - r
  · rw [if_pos c1, decide_eq_true c1]
    by_cases c2 : x + r ≤ W / 2
    · rw [if_pos c2, decide_eq_true c2]
      by_cases c3 : 0 ≤ y - r
      · rw [if_pos c3, decide_eq_true c3]; rfl
      · rw [if_neg c3, decide_eq_false c3]; rfl
    · rw [if_neg c2, decide_eq_false c2]; rfl
  · rw [if_neg c1, decide_eq_false c1]; rfl
theorem far_f (x y : Int) : stage_far.f x y = some (!pOk x y) := by
  unfold stage_far.f
  by_cases h : pOk x y = true
  · have h' := (pOk_iff x y).1 h
    rw [h, if_neg (by omega), if_neg (by omega), if_neg (by omega), decide_eq_false (by omega)]; rfl
  · have h' : ¬ (-32768 ≤ x ∧ x ≤ 32768 ∧ -32768 ≤ y ∧ y ≤ 32768) := fun hh => h ((pOk_iff x y).2 hh)
    rw [show pOk x y = false by simpa using h]
    split
    · rfl
    · split
      · rfl
      · split
        · rfl
        · rw [decide_eq_true (by omega)]; rfl
theorem check_l0 (W D : Int) (h : wdOk W D) (L M : List Blk) (hL : L.length ≤ 1000) : ∀ (r : List Blk) (i k : Nat), L.drop i = r → r.length < k → stage_Check.l0 k L (L.length : Int) (i : Int) W D M = some (if r.all (blkOk W D) = true then 0 else 29) := by
  intro r
  induction r with
  | nil =>
    intro i k hr hk
    obtain ⟨k, rfl⟩ : ∃ m, k = m + 1 := ⟨k - 1, by omega⟩
    have : L.length ≤ i := by simpa using hr
    simp only [stage_Check.l0]
    rw [if_neg (by omega)]
    rfl
  | cons b r ih =>
    intro i k hr hk
    simp only [List.length_cons] at hk
    obtain ⟨k, rfl⟩ : ∃ m, k = m + 1 := ⟨k - 1, by omega⟩
    obtain ⟨h1, h2, h3⟩ := rdB_of_drop hr
    simp only [stage_Check.l0]
    rw [if_pos (by omega), if_pos (by omega), if_pos (by omega), h1, far_f, Option.bind_some, List.all_cons]
    obtain ⟨w1, w2, w3, w4, w5⟩ := h
    by_cases c : blkOk W D b = true
    · have c' := (blkOk_iff W D b).1 c
      have hp : pOk b.f0.f0 b.f0.f1 = true := (pOk_iff _ _).2 (by omega)
      rw [hp, if_neg (by simp), on_f W D M _ _ 0 ⟨w1, w2, w3, w4, w5⟩ (by omega) (by omega), Option.bind_some, if_pos ((inB_iff _ _ _ _ _).2 (by omega)), if_neg (by omega), if_neg (by omega), if_neg (by simp; omega), w64 (by omega) (by omega), show (i : Int) + 1 = ((i + 1 : Nat) : Int) by omega, ih (i + 1) k h3 (by omega), c, Bool.true_and]
    · have c' : ¬ _ := fun hh => c ((blkOk_iff W D b).2 hh)
      rw [show blkOk W D b = false by simpa using c, Bool.false_and, if_neg (show ¬ (false = true) by simp)]
      by_cases c1 : pOk b.f0.f0 b.f0.f1 = true
      · have c1' := (pOk_iff _ _).1 c1
        rw [c1, if_neg (by simp), on_f W D M _ _ 0 ⟨w1, w2, w3, w4, w5⟩ (by omega) (by omega), Option.bind_some]
        by_cases c2 : inB W D b.f0.f0 b.f0.f1 0 = true
        · have c2' := (inB_iff _ _ _ _ _).1 c2
          rw [if_pos c2]
          by_cases c3 : b.f1 < 1
          · rw [if_pos c3]
          · rw [if_neg c3, if_pos]
            apply Int.lt_of_not_ge
            intro c4
            exact c' ⟨by omega, by omega, by omega⟩
        · rw [if_neg c2]
      · rw [show pOk b.f0.f0 b.f0.f1 = false by simpa using c1, if_pos (by rfl)]
theorem check_f (k : Nat) (W D : Int) (L : List Blk) (hk : 40 ≤ k) : stage_Check.f k W D L = some (chk W D L) := by
  obtain ⟨k, rfl⟩ : ∃ m, k = m + 1 := ⟨k - 1, by omega⟩
  have hm : Int.tmod W 2 = 0 ↔ W % 2 = 0 := by
    rcases Int.le_total 0 W with h | h
    · rw [Int.tmod_eq_emod_of_nonneg h]
    · have e := Int.neg_tmod (a := -W) (b := 2)
      rw [Int.neg_neg, Int.tmod_eq_emod_of_nonneg (a := -W) (by omega)] at e
      omega
  have bad : ∀ k', 1 ≤ k' → stage_Check.j0 k' true W D L = some 29 := by
    intro k' hk'
    obtain ⟨k', rfl⟩ : ∃ m, k' = m + 1 := ⟨k' - 1, by omega⟩
    simp only [stage_Check.j0]
    rw [if_pos trivial]
  unfold stage_Check.f chk
  by_cases h : wdOk W D
  · obtain ⟨w1, w2, w3, w4, w5⟩ := h
    rw [if_pos (show wdOk W D from ⟨w1, w2, w3, w4, w5⟩), if_pos (hm.2 w1), if_neg (by omega), if_neg (by omega), if_neg (by omega), decide_eq_false (by omega)]
    simp only [stage_Check.j0]
    rw [if_neg (by simp)]
    by_cases c : L.length > 16
    · rw [if_pos (by omega), if_pos c]
    · rw [if_neg (by omega), if_neg c]
      exact check_l0 W D ⟨w1, w2, w3, w4, w5⟩ L L (by omega) L 0 k (by simp) (by omega)
  · rw [if_neg h]
    unfold wdOk at h
    by_cases c1 : Int.tmod W 2 = 0
    · rw [if_pos c1]
      have := hm.1 c1
      by_cases c2 : W < 2
      · rw [if_pos c2]; exact bad _ (by omega)
      · rw [if_neg c2]
        by_cases c3 : W > 65536
        · rw [if_pos c3]; exact bad _ (by omega)
        · rw [if_neg c3]
          by_cases c4 : D < 1
          · rw [if_pos c4]; exact bad _ (by omega)
          · rw [if_neg c4, decide_eq_true (by omega)]; exact bad _ (by omega)
    · rw [if_neg c1]; exact bad _ (by omega)
theorem chk_ok {W D : Int} {L : List Blk} (h : chk W D L = 0) : wdOk W D ∧ L.length ≤ 16 ∧ L.all (blkOk W D) = true := by
  unfold chk at h
  split at h
  · rename_i h1
    split at h
    · omega
    · rename_i h2
      split at h
      · rename_i h3
        exact ⟨h1, by omega, h3⟩
      · omega
  · omega
def hit (m0 m1 m2 m3 m4 : Int) : List Blk → Int → Int
  | [], _ => -1
  | b :: r, i => if (tch m0 m1 m2 m3 m4 b.f0.f0 b.f0.f1 b.f0.f0 b.f0.f1 b.f1).1 = true then i else hit m0 m1 m2 m3 m4 r (i + 1)
/-- What Clear returns. -/
def clr (W D : Int) (L : List Blk) (m0 m1 m2 m3 m4 : Int) : Bool × Int × Int :=
  if chk W D L = 0 then (if mOk m0 m1 m2 m3 m4 = true then (inB W D m0 m1 m4 && inB W D m2 m3 m4, hit m0 m1 m2 m3 m4 L 0, 0) else (false, 0, 1)) else (false, 0, chk W D L)
theorem both (a b : Bool) (x : Int) : (if a = true then (some (b, x, (0 : Int))) else some (false, x, 0)) = some (a && b, x, 0) := by cases a <;> rfl
theorem clear_l0 (W D : Int) (h : wdOk W D) (m0 m1 m2 m3 m4 : Int) (hm : mOk m0 m1 m2 m3 m4 = true) (L M : List Blk) (hL : L.length ≤ 1000) : ∀ (r : List Blk) (i k : Nat), L.drop i = r → r.length + 30 < k →
    stage_Clear.l0 k (-1) L (L.length : Int) (i : Int) W D M m0 m1 m2 m3 m4 = some (inB W D m0 m1 m4 && inB W D m2 m3 m4, hit m0 m1 m2 m3 m4 r i, 0) := by
  obtain ⟨g1, g2, g3⟩ := (mOk_iff _ _ _ _ _).1 hm
  intro r
  induction r with
  | nil =>
    intro i k hr hk
    obtain ⟨k, rfl⟩ : ∃ m, k = m + 1 := ⟨k - 1, by omega⟩
    have : L.length ≤ i := by simpa using hr
    simp only [stage_Clear.l0]
    rw [if_neg (by omega), on_f W D M m0 m1 m4 h g1 g3, on_f W D M m2 m3 m4 h g2 g3, Option.bind_some, Option.bind_some, both]
    rfl
  | cons b r ih =>
    intro i k hr hk
    simp only [List.length_cons] at hk
    obtain ⟨k, rfl⟩ : ∃ m, k = m + 1 := ⟨k - 1, by omega⟩
    obtain ⟨h1, h2, h3⟩ := rdB_of_drop hr
    simp only [stage_Clear.l0]
    rw [if_pos (by omega), if_pos (by omega), if_pos (by omega), h1, touch_f k _ _ _ _ _ _ _ _ _ _ (by omega), Option.bind_some]
    by_cases c : (tch m0 m1 m2 m3 m4 b.f0.f0 b.f0.f1 b.f0.f0 b.f0.f1 b.f1).1 = true
    · rw [if_pos c, on_f W D M m0 m1 m4 h g1 g3, on_f W D M m2 m3 m4 h g2 g3, Option.bind_some, Option.bind_some, both]
      simp only [hit]
      rw [if_pos c]
    · rw [if_neg c, w64 (by omega) (by omega), show (i : Int) + 1 = ((i + 1 : Nat) : Int) by omega, ih (i + 1) k h3 (by omega)]
      simp only [hit]
      rw [if_neg c]
      rfl
theorem touch_self (m0 m1 m2 m3 m4 : Int) : (tch m0 m1 m2 m3 m4 m0 m1 m2 m3 m4).2 = if mOk m0 m1 m2 m3 m4 = true then 0 else 1 := by
  unfold tch
  by_cases h : mOk m0 m1 m2 m3 m4 = true
  · rw [if_pos ⟨h, h⟩, if_pos h]
  · rw [if_neg (fun hh => h hh.1), if_neg h]
theorem clear_f (k : Nat) (W D : Int) (L : List Blk) (m0 m1 m2 m3 m4 : Int) (hk : 60 ≤ k) : stage_Clear.f k W D L m0 m1 m2 m3 m4 = some (clr W D L m0 m1 m2 m3 m4) := by
  unfold stage_Clear.f clr
  rw [check_f k W D L (by omega), Option.bind_some]
  by_cases h : chk W D L = 0
  · rw [if_pos h, if_pos h, touch_f k _ _ _ _ _ _ _ _ _ _ (by omega), Option.bind_some, touch_self]
    obtain ⟨c1, c2, c3⟩ := chk_ok h
    by_cases hm : mOk m0 m1 m2 m3 m4 = true
    · rw [if_pos hm, if_pos rfl, if_pos hm]
      exact clear_l0 W D c1 m0 m1 m2 m3 m4 hm L L (by omega) L 0 k (by simp) (by omega)
    · rw [if_neg hm, if_neg (by omega), if_neg hm]
  · rw [if_neg h, if_neg h]
end Go.Proofs.Ytmdmajfgpmopbaa.SImpl

/- The first hit of a movement: the package's and the reference's, as printed, are one. -/
namespace Go.Proofs.Ytmdmajfgpmopbaa.Fl
open Go.RowKit Go.Proofs.YtmdmajfgpmopbaaW.PrintWords Go.Proofs.Ytmdmajfgpmopbaa.X Go.Proofs.Ytmdmajfgpmopbaa.Geo Go.Proofs.Ytmdmajfgpmopbaa.GeoImpl
set_option linter.unusedVariables false
set_option linter.unusedSimpArgs false
/-- What a stage says of the step from a tick. -/
def cl (W D : Int) (L : List SImpl.Blk) (P : List Sp) (r : Int) (i : Nat) : Bool × Int × Int :=
  SImpl.clr W D L (ps P i).f0.f0 (ps P i).f0.f1 (ps P (i + 1)).f0.f0 (ps P (i + 1)).f0.f1 r
theorem cl_ok {W D : Int} {L : List SImpl.Blk} (hs : SImpl.chk W D L = 0) {P : List Sp} {U : List Int} (h : chk P U = 0) {r : Int} (h0 : 0 ≤ r) (h1 : r ≤ 32768) {i : Nat} (hi : i + 1 < P.length) : (cl W D L P r i).2.2 = 0 := by
  obtain ⟨a1, a2, a3, a4⟩ := ps_on h (show i < P.length by omega)
  obtain ⟨b1, b2, b3, b4⟩ := ps_on h hi
  unfold cl SImpl.clr
  rw [if_pos hs, if_pos ((mOk_iff _ _ _ _ _).2 ⟨⟨a1, a2, a3, a4⟩, ⟨b1, b2, b3, b4⟩, h0, h1⟩)]
/-- The first hit from a tick on. -/
def fst (W D : Int) (L : List SImpl.Blk) (P : List Sp) (r : Int) : Nat → Nat → Int × Int × Int × Int
  | 0, _ => (-1, 0, 0, 0)
  | m + 1, i => if (cl W D L P r i).1 = true then (if (cl W D L P r i).2.1 ≥ 0 then ((i : Int), 0, (cl W D L P r i).2.1, 0) else fst W D L P r m (i + 1)) else ((i : Int), 0, -1, 0)
theorem push4 {α : Type} {c : Prop} [Decidable c] (o p : Option α) (a b : α) (h : o = some a) (h2 : p = some b) : (if c then o else p) = some (if c then a else b) := by
  split
  · exact h
  · exact h2
theorem ff_l0 (W D : Int) (L : List SImpl.Blk) (hs : SImpl.chk W D L = 0) (P : List Sp) (U : List Int) (h : chk P U = 0) (r : Int) (h0 : 0 ≤ r) (h1 : r ≤ 32768) : ∀ (m i k : Nat), i + m = U.length → m + 90 < k →
    floor_First.l0 k r (U.length : Int) (i : Int) W D L P U = some (fst W D L P r m i) := by
  obtain ⟨c1, c2, c3, _, _⟩ := chk_ok h
  intro m
  induction m with
  | zero =>
    intro i k hi hk
    obtain ⟨k, rfl⟩ : ∃ m, k = m + 1 := ⟨k - 1, by omega⟩
    rw [floor_First.l0, if_neg (by omega)]
    rfl
  | succ m ih =>
    intro i k hi hk
    obtain ⟨k, rfl⟩ : ∃ m, k = m + 1 := ⟨k - 1, by omega⟩
    have hc := cl_ok hs h h0 h1 (show i + 1 < P.length by omega)
    rw [floor_First.l0, if_pos (by omega), if_pos (by omega), if_pos (by omega), w64 (x := (i : Int) + 1) (by omega) (by omega), if_pos (by omega), if_pos (by omega), show (i : Int) + 1 = ((i + 1 : Nat) : Int) by omega]
    have he : stage_Clear.f k W D L (rd_T53 P (i : Int)).f0.f0 (rd_T53 P (i : Int)).f0.f1 (rd_T53 P ((i + 1 : Nat) : Int)).f0.f0 (rd_T53 P ((i + 1 : Nat) : Int)).f0.f1 r = some (cl W D L P r i) := SImpl.clear_f k W D L _ _ _ _ _ (by omega)
    rw [he, Option.bind_some, if_pos hc, fst]
    exact push4 _ _ _ _ (push4 _ _ _ _ rfl (ih (i + 1) k (by omega) (by omega))) rfl
/-- The answer of First. -/
def fstV (W D : Int) (L : List SImpl.Blk) (P : List Sp) (U : List Int) (r : Int) : Int × Int × Int × Int :=
  if SImpl.chk W D L = 0 then (if chk P U = 0 then (if 0 ≤ r ∧ r ≤ 32768 then fst W D L P r U.length 0 else (0, 0, 0, 1)) else (0, 0, 0, chk P U)) else (0, 0, 0, SImpl.chk W D L)
theorem ff_f (k : Nat) (W D : Int) (L : List SImpl.Blk) (P : List Sp) (U : List Int) (r : Int) (hP : P.length ≤ 200) (hU : U.length ≤ 200) (hk : 17000 ≤ k) : floor_First.f k W D L P U r = some (fstV W D L P U r) := by
  unfold floor_First.f fstV
  rw [SImpl.check_f k W D L (by omega), Option.bind_some]
  by_cases hs : SImpl.chk W D L = 0
  · rw [if_pos hs, if_pos hs, m_f k P U (by omega) (by omega) (by omega), Option.bind_some]
    by_cases h : chk P U = 0
    · rw [if_pos h, if_pos h]
      obtain ⟨k, rfl⟩ : ∃ m, k = m + 1 := ⟨k - 1, by omega⟩
      by_cases h0 : r < 0
      · rw [if_pos h0, floor_First.j0, if_pos rfl, if_neg (by omega)]
      · rw [if_neg h0]
        by_cases h1 : r > 32768
        · rw [decide_eq_true h1, floor_First.j0, if_pos rfl, if_neg (by omega)]
        · rw [decide_eq_false h1, floor_First.j0, if_neg (by simp), if_pos (by omega)]
          exact ff_l0 W D L hs P U h r (by omega) (by omega) U.length 0 k (by omega) (by omega)
    · rw [if_neg h, if_neg h]
  · rw [if_neg hs, if_neg hs]
end Go.Proofs.Ytmdmajfgpmopbaa.Fl

/- FlChk: the reference's side. -/
namespace Go.Proofs.Ytmdmajfgpmopbaa.Fl
open Go.RowKit Go.Proofs.YtmdmajfgpmopbaaW.PrintWords Go.Proofs.Ytmdmajfgpmopbaa.X
set_option linter.unusedVariables false
set_option linter.unusedSimpArgs false

theorem ref_j (k : Nat) (x : Bool) (a b c : Int) : dancestudioref18_Check.j0 (k + 1) x a b c = some (if x = true then 1 else if b = 64 ∨ b = -64 then (if a = 0 then 0 else 2) else 0) := by
  rw [dancestudioref18_Check.j0]
  cases x with
  | true => rw [if_pos rfl, if_pos rfl]
  | false =>
    simp only [Bool.false_eq_true, if_false, dancestudioref18_Pole.f]
    by_cases h : b = 64
    · rw [if_pos h, Option.bind_some, if_pos rfl, if_pos (show b = 64 ∨ b = -64 from Or.inl h)]
      by_cases h2 : a = 0
      · rw [if_pos h2, if_pos h2]
      · rw [if_neg h2, if_neg h2]
    · rw [if_neg h, Option.bind_some]
      by_cases h3 : b = -64
      · rw [if_pos (show (b == -64) = true by simpa using h3), if_pos (show b = 64 ∨ b = -64 from Or.inr h3)]
        by_cases h2 : a = 0
        · rw [if_pos h2, if_pos h2]
        · rw [if_neg h2, if_neg h2]
      · rw [if_neg (show ¬ (b == -64) = true by simpa using h3), if_neg (show ¬ (b = 64 ∨ b = -64) by omega)]
theorem ref_f (k : Nat) (hk : 1 ≤ k) (limb a b c : Int) (hl : 0 ≤ limb ∧ limb < 6) : dancestudioref18_Check.f k limb a b c = some (okA limb a b c) := by
  obtain ⟨k, rfl⟩ : ∃ m, k = m + 1 := ⟨k - 1, by omega⟩
  unfold dancestudioref18_Check.f dancestudioref18_limbed.f
  rw [if_pos hl.1, Option.bind_some, if_pos (by simpa using hl.2), okA_of limb a b c hl]
  simp only [ref_j, if_true]
  refine push _ _ _ (push _ _ _ (push _ _ _ (push _ _ _ (push _ _ _ rfl))))

theorem rv_f (k : Nat) (hk : 1 ≤ k) (p : Sp) : dancestudioref19_Valid.f k p.f0.f0 p.f0.f1 p.f1 p.f2 p.f3.f0.f0 p.f3.f0.f1 p.f3.f0.f2 p.f3.f1.f0 p.f3.f1.f1 p.f3.f1.f2 p.f3.f2.f0 p.f3.f2.f1 p.f3.f2.f2 p.f3.f3.f0 p.f3.f3.f1 p.f3.f3.f2 p.f3.f4.f0 p.f3.f4.f1 p.f3.f4.f2 p.f3.f5.f0 p.f3.f5.f1 p.f3.f5.f2 = some (V p) := by
  unfold dancestudioref19_Valid.f dancestudioref19_On.f
  have hx : (if p.f0.f0 ≥ (-32768) then (some (decide (p.f0.f0 ≤ 32768))) else (some false)) = some (decide (-32768 ≤ p.f0.f0 ∧ p.f0.f0 ≤ 32768)) := by
    split
    · congr 1; rw [decide_eq_decide]; omega
    · rw [decide_eq_false (by omega)]
  have hy : (if p.f0.f1 ≥ (-32768) then (some (decide (p.f0.f1 ≤ 32768))) else (some false)) = some (decide (-32768 ≤ p.f0.f1 ∧ p.f0.f1 ≤ 32768)) := by
    split
    · congr 1; rw [decide_eq_decide]; omega
    · rw [decide_eq_false (by omega)]
  rw [hx, hy, Option.bind_some, Option.bind_some, V]
  by_cases h1 : -32768 ≤ p.f0.f0 ∧ p.f0.f0 ≤ 32768
  · rw [if_pos (by simpa using h1)]
    by_cases h2 : -32768 ≤ p.f0.f1 ∧ p.f0.f1 ≤ 32768
    · rw [if_pos (by simpa using h2), if_pos (show On p from ⟨h1.1, h1.2, h2.1, h2.2⟩)]
      refine push _ _ _ (push _ _ _ (push _ _ _ (push _ _ _ ?_)))
      rw [ref_f k hk _ _ _ _ (by omega), ref_f k hk _ _ _ _ (by omega), ref_f k hk _ _ _ _ (by omega), ref_f k hk _ _ _ _ (by omega), ref_f k hk _ _ _ _ (by omega), ref_f k hk _ _ _ _ (by omega)]
      rw [Option.bind_some, Option.bind_some, Option.bind_some, Option.bind_some, Option.bind_some, Option.bind_some]
      unfold aims
      exact pull _ _ _ (pull _ _ _ (pull _ _ _ (pull _ _ _ (pull _ _ _ (pull _ _ _ rfl)))))
    · rw [if_neg (by simpa using h2), if_neg (fun h => h2 ⟨h.2.2.1, h.2.2.2⟩)]
  · rw [if_neg (by simpa using h1), if_neg (fun h => h1 ⟨h.1, h.2.1⟩)]

theorem r_l1 (P : List Sp) (U : List Int) (hU : U.length ≤ 8192) : ∀ (s : List Int) (i k : Nat), U.drop i = s → s.length < k → dancestudioref29_Check.l1 k (i : Int) P U = some (feet s) := by
  intro s
  induction s with
  | nil =>
    intro i k hd hk
    obtain ⟨k, rfl⟩ : ∃ m, k = m + 1 := ⟨k - 1, by omega⟩
    have hi : U.length ≤ i := List.drop_eq_nil_iff.1 hd
    rw [dancestudioref29_Check.l1, if_neg (by omega)]
    rfl
  | cons x s ih =>
    intro i k hd hk
    simp only [List.length_cons] at hk
    obtain ⟨k, rfl⟩ : ∃ m, k = m + 1 := ⟨k - 1, by omega⟩
    obtain ⟨hx, hi, hn⟩ := rdI hd
    rw [dancestudioref29_Check.l1, if_pos (by omega), if_pos (by omega), hx, w64 (by omega) (by omega), show (i : Int) + 1 = ((i + 1 : Nat) : Int) by omega, feet]
    exact push _ _ _ (push _ _ _ (ih (i + 1) k hn (by omega)))
theorem r_l0 (P : List Sp) (U : List Int) (hP : P.length ≤ 8193) (hU : U.length ≤ 8192) : ∀ (s : List Sp) (i k : Nat), P.drop i = s → s.length + U.length + 1 < k →
    dancestudioref29_Check.l0 k (i : Int) P U = some (if poses s = 0 then feet U else poses s) := by
  intro s
  induction s with
  | nil =>
    intro i k hd hk
    obtain ⟨k, rfl⟩ : ∃ m, k = m + 1 := ⟨k - 1, by omega⟩
    have hi : P.length ≤ i := List.drop_eq_nil_iff.1 hd
    rw [dancestudioref29_Check.l0, if_neg (by omega), show (0 : Int) = ((0 : Nat) : Int) by rfl, r_l1 P U hU U 0 k (by simp) (by simp at hk; omega), poses]
    rfl
  | cons x s ih =>
    intro i k hd hk
    simp only [List.length_cons] at hk
    obtain ⟨k, rfl⟩ : ∃ m, k = m + 1 := ⟨k - 1, by omega⟩
    obtain ⟨hx, hi, hn⟩ := rdP hd
    rw [dancestudioref29_Check.l0, if_pos (by omega), if_pos (by omega), hx, rv_f k (by omega), Option.bind_some, w64 (by omega) (by omega), show (i : Int) + 1 = ((i + 1 : Nat) : Int) by omega, ih (i + 1) k hn (by omega), poses]
    by_cases h : V x = 0
    · rw [if_pos h, if_pos h]
    · rw [if_neg h, if_neg h, if_neg h]
theorem r_f (k : Nat) (P : List Sp) (U : List Int) (hP : P.length ≤ 9223372036854775000) (hU : U.length ≤ 9223372036854775000) (hk : 16500 ≤ k) : dancestudioref29_Check.f k P U = some (chk P U) := by
  obtain ⟨k, rfl⟩ : ∃ m, k = m + 1 := ⟨k - 1, by omega⟩
  unfold dancestudioref29_Check.f chk
  rw [w64 (by omega) (by omega)]
  by_cases h3 : P.length = U.length + 1
  · rw [if_pos (by omega)]
    by_cases h1 : U.length < 1
    · rw [if_pos (by omega), if_pos (Or.inl h1), dancestudioref29_Check.j0, if_pos rfl]
    rw [if_neg (by omega)]
    by_cases h2 : 8192 < U.length
    · rw [if_pos (Or.inr (Or.inl h2)), decide_eq_true (by omega), dancestudioref29_Check.j0, if_pos rfl]
    rw [if_neg (by omega), decide_eq_false (by omega), dancestudioref29_Check.j0, if_neg (by simp), show (0 : Int) = ((0 : Nat) : Int) by rfl, r_l0 P U (by omega) (by omega) P 0 k (by simp) (by omega)]
    rfl
  · rw [if_neg (by omega), if_pos (Or.inr (Or.inr h3)), dancestudioref29_Check.j0, if_pos rfl]
end Go.Proofs.Ytmdmajfgpmopbaa.Fl

/- The references 01 and 03, as printed, compute the plain geometry. -/
namespace Go.Proofs.Ytmdmajfgpmopbaa.GeoImpl
open Go.RowKit Go.Proofs.YtmdmajfgpmopbaaW.PrintWords Go.Proofs.Ytmdmajfgpmopbaa.X Go.Proofs.Ytmdmajfgpmopbaa.Geo
set_option linter.unusedVariables false
set_option linter.unusedSimpArgs false
theorem Valid_f (x y : Int) : dancestudioref03_Valid.f x y = some (pOk x y) := by
  unfold dancestudioref03_Valid.f
  by_cases h : pOk x y = true
  · have h' := (pOk_iff x y).1 h
    rw [h, if_pos (by omega), if_pos (by omega), if_pos (by omega), decide_eq_true (by omega)]
  · have h' : ¬ (-32768 ≤ x ∧ x ≤ 32768 ∧ -32768 ≤ y ∧ y ≤ 32768) := fun hh => h ((pOk_iff x y).2 hh)
    rw [show pOk x y = false by simpa using h]
    split
    · split
      · split
        · rw [decide_eq_false (by omega)]
        · rfl
      · rfl
    · rfl
theorem Radius_f (r : Int) : dancestudioref03_Radius.f r = some (rOk r) := by
  unfold dancestudioref03_Radius.f
  by_cases h : rOk r = true
  · have h' := (rOk_iff r).1 h
    rw [h, if_pos (by omega), decide_eq_true (by omega)]
  · have h' : ¬ (0 ≤ r ∧ r ≤ 32768) := fun hh => h ((rOk_iff r).2 hh)
    rw [show rOk r = false by simpa using h]
    split
    · rw [decide_eq_false (by omega)]
    · rfl
theorem motion_f (a b c d r : Int) : dancestudioref03_motion.f a b c d r = some (mOk a b c d r) := by
  unfold dancestudioref03_motion.f mOk
  rw [Valid_f, Option.bind_some]
  cases pOk a b
  · rw [if_neg (by simp)]; rfl
  · rw [if_pos rfl, Valid_f, Option.bind_some]
    cases pOk c d
    · rw [if_neg (by simp)]; rfl
    · rw [if_pos rfl, Radius_f, Option.bind_some]; rfl
theorem square_f (a b c d : Int) (ha : -32768 ≤ a ∧ a ≤ 32768) (hb : -32768 ≤ b ∧ b ≤ 32768) (hc : -32768 ≤ c ∧ c ≤ 32768) (hd : -32768 ≤ d ∧ d ≤ 32768) : dancestudioref03_square.f a b c d = some ((a - c) * (a - c) + (b - d) * (b - d)) ∧ (a - c) * (a - c) + (b - d) * (b - d) ≤ 8589934592 := by
  have h1 := mul_bd (a - c) (a - c) 65536 65536 (by omega) (by omega)
  have h2 := mul_bd (b - d) (b - d) 65536 65536 (by omega) (by omega)
  unfold dancestudioref03_square.f
  rw [w64 (x := a - c) (by omega) (by omega), w64 (x := b - d) (by omega) (by omega), w64 (x := (a - c) * (a - c)) (by omega) (by omega), w64 (x := (b - d) * (b - d)) (by omega) (by omega), w64 (by omega) (by omega)]
  exact ⟨rfl, by omega⟩
theorem Small_f (a : Int) (h : sm a) : dancestudioref01_Small.f a = some true := by
  unfold dancestudioref01_Small.f sm at *
  rw [if_pos (by omega), decide_eq_true (by omega)]
theorem rorder_f (a b : Int) : dancestudioref01_order.f a b = some (cmp a b) := by
  unfold dancestudioref01_order.f cmp
  split
  · rfl
  · split <;> rfl
theorem cmp0 (a : Int) : cmp a 0 = sg a := by
  unfold cmp sg
  split
  · rfl
  · split
    · rw [if_neg (by omega)]
    · rw [if_pos (by omega)]
theorem sg_prod (a b : Int) : sg a * sg b = sg (a * b) := by
  rcases Int.lt_trichotomy a 0 with ha | ha | ha
  · rcases Int.lt_trichotomy b 0 with hb | hb | hb
    · have := Int.mul_pos_of_neg_of_neg ha hb
      unfold sg; rw [if_pos ha, if_pos hb, if_neg (by omega), if_neg (by omega)]; rfl
    · subst hb; rw [Int.mul_zero]; unfold sg; simp
    · have := Int.mul_neg_of_neg_of_pos ha hb
      unfold sg; rw [if_pos ha, if_neg (by omega), if_neg (by omega), if_pos this]; rfl
  · subst ha; rw [Int.zero_mul]; unfold sg; simp
  · rcases Int.lt_trichotomy b 0 with hb | hb | hb
    · have := Int.mul_neg_of_pos_of_neg ha hb
      unfold sg; rw [if_neg (by omega), if_neg (by omega), if_pos hb, if_pos this]; rfl
    · subst hb; rw [Int.mul_zero]; unfold sg; simp
    · have := Int.mul_pos ha hb
      unfold sg; rw [if_neg (by omega), if_neg (by omega), if_neg (by omega), if_neg (by omega), if_neg (by omega), if_neg (by omega)]; rfl
theorem sign_f (a b : Int) : dancestudioref01_sign.f a b = some (sg (a * b)) := by
  unfold dancestudioref01_sign.f
  have h1 := sg_range a
  have h2 := sg_range b
  have h3 := sg_range (a * b)
  rw [rorder_f, rorder_f, Option.bind_some, Option.bind_some, cmp0, cmp0, sg_prod, w64 (by omega) (by omega)]
theorem rsize_f (a : Int) (h : sm a) : dancestudioref01_size.f a = some (ab a) := by
  unfold dancestudioref01_size.f ab sm at *
  split
  · rw [w64 (by omega) (by omega)]
  · rfl
theorem parts26 (x y : Int) (hx0 : 0 ≤ x) (hy0 : 0 ≤ y) : x * y = (x / 67108864 * (y / 67108864)) * 4503599627370496 + (x / 67108864 * (y % 67108864) + x % 67108864 * (y / 67108864)) * 67108864 + x % 67108864 * (y % 67108864) := by
  have e1 : x = x / 67108864 * 67108864 + x % 67108864 := by omega
  have e2 : y = y / 67108864 * 67108864 + y % 67108864 := by omega
  generalize x / 67108864 = a at *
  generalize x % 67108864 = b at *
  generalize y / 67108864 = c at *
  generalize y % 67108864 = d at *
  subst e1
  subst e2
  grind
/-- A product in three parts. -/
def w1 (p : Int) : Int := ab p / 4503599627370496
def w2 (p : Int) : Int := ab p / 67108864 % 67108864
def w3 (p : Int) : Int := ab p % 67108864
theorem wide_f (a b : Int) (ha : sm a) (hb : sm b) : dancestudioref01_wide.f (ab a) (ab b) = some (w1 (a * b), w2 (a * b), w3 (a * b)) := by
  have hx0 : 0 ≤ ab a := by unfold ab; split <;> omega
  have hy0 : 0 ≤ ab b := by unfold ab; split <;> omega
  have hx1 : ab a ≤ 1125899906842624 := by unfold ab; unfold sm at ha; split <;> omega
  have hy1 : ab b ≤ 1125899906842624 := by unfold ab; unfold sm at hb; split <;> omega
  have hp := parts26 (ab a) (ab b) hx0 hy0
  have hP : ab (a * b) = ab a * ab b := ab_mul a b
  have A1 := mul_bd (ab a / 67108864) (ab b / 67108864) 16777216 16777216 (by omega) (by omega)
  have B1 := mul_bd (ab a / 67108864) (ab b % 67108864) 16777216 67108864 (by omega) (by omega)
  have C1 := mul_bd (ab a % 67108864) (ab b / 67108864) 67108864 16777216 (by omega) (by omega)
  have D1 := mul_bd (ab a % 67108864) (ab b % 67108864) 67108863 67108863 (by omega) (by omega)
  have A0 := Int.mul_nonneg (a := ab a / 67108864) (b := ab b / 67108864) (by omega) (by omega)
  have B0 := Int.mul_nonneg (a := ab a / 67108864) (b := ab b % 67108864) (by omega) (by omega)
  have C0 := Int.mul_nonneg (a := ab a % 67108864) (b := ab b / 67108864) (by omega) (by omega)
  have D0 := Int.mul_nonneg (a := ab a % 67108864) (b := ab b % 67108864) (by omega) (by omega)
  unfold dancestudioref01_wide.f
  rw [Int.tdiv_eq_ediv_of_nonneg hx0, Int.tdiv_eq_ediv_of_nonneg hy0, Int.tmod_eq_emod_of_nonneg hx0, Int.tmod_eq_emod_of_nonneg hy0]
  rw [w64 (x := ab a / 67108864) (by omega) (by omega), w64 (x := ab b / 67108864) (by omega) (by omega)]
  generalize ab a / 67108864 * (ab b / 67108864) = A at *
  generalize ab a / 67108864 * (ab b % 67108864) = B at *
  generalize ab a % 67108864 * (ab b / 67108864) = C at *
  generalize ab a % 67108864 * (ab b % 67108864) = D at *
  rw [w64 (x := A) (by omega) (by omega), w64 (x := B) (by omega) (by omega), w64 (x := C) (by omega) (by omega), w64 (x := D) (by omega) (by omega), w64 (x := B + C) (by omega) (by omega)]
  rw [Int.tdiv_eq_ediv_of_nonneg (a := D) D0, Int.tmod_eq_emod_of_nonneg (a := D) D0, w64 (x := D / 67108864) (by omega) (by omega), w64 (x := B + C + D / 67108864) (by omega) (by omega)]
  rw [Int.tdiv_eq_ediv_of_nonneg (a := B + C + D / 67108864) (by omega), Int.tmod_eq_emod_of_nonneg (a := B + C + D / 67108864) (by omega), w64 (x := (B + C + D / 67108864) / 67108864) (by omega) (by omega), w64 (by omega) (by omega)]
  have e1 : A + (B + C + D / 67108864) / 67108864 = w1 (a * b) := by unfold w1; omega
  have e2 : (B + C + D / 67108864) % 67108864 = w2 (a * b) := by unfold w2; omega
  have e3 : D % 67108864 = w3 (a * b) := by unfold w3; omega
  rw [e1, e2, e3]
theorem cmp_w (p q s : Int) (h : sg p = sg q) (x y : Int) (hx : sg p * cmp x y = cmp p q) : some (wrap64 (sg p * cmp x y), (0 : Int)) = some (cmp p q, 0) := by
  have := cmp_range p q
  rw [hx, w64 (by omega) (by omega)]
theorem sg_cases (p : Int) : sg p = -1 ∨ sg p = 0 ∨ sg p = 1 := by
  unfold sg
  split
  · simp
  · split <;> simp
theorem cmp_w1 (p q : Int) (h : sg p = sg q) (h2 : w1 p ≠ w1 q) : sg p * cmp (w1 p) (w1 q) = cmp p q := by
  rcases sg_cases p with e | e | e <;> rw [e] at h ⊢ <;> unfold sg at e h <;> unfold cmp w1 ab at * <;> (repeat' split at e) <;> (repeat' split at h) <;> first | omega | (repeat' split <;> omega)
theorem cmp_w2 (p q : Int) (h : sg p = sg q) (h1 : w1 p = w1 q) (h2 : w2 p ≠ w2 q) : sg p * cmp (w2 p) (w2 q) = cmp p q := by
  rcases sg_cases p with e | e | e <;> rw [e] at h ⊢ <;> unfold sg at e h <;> unfold cmp w1 w2 ab at * <;> (repeat' split at e) <;> (repeat' split at h) <;> first | omega | (repeat' split <;> omega)
theorem cmp_w3 (p q : Int) (h : sg p = sg q) (h1 : w1 p = w1 q) (h2 : w2 p = w2 q) : sg p * cmp (w3 p) (w3 q) = cmp p q := by
  rcases sg_cases p with e | e | e <;> rw [e] at h ⊢ <;> unfold sg at e h <;> unfold cmp w1 w2 w3 ab at * <;> (repeat' split at e) <;> (repeat' split at h) <;> first | omega | (repeat' split <;> omega)
theorem rcompare_f (k : Nat) (a b c d : Int) (ha : sm a) (hb : sm b) (hc : sm c) (hd : sm d) (hk : 3 ≤ k) : dancestudioref01_Compare.f k a b c d = some (cmp (a * b) (c * d), 0) := by
  obtain ⟨k, rfl⟩ : ∃ m, k = m + 1 := ⟨k - 1, by omega⟩
  unfold dancestudioref01_Compare.f
  rw [Small_f a ha, Small_f b hb, Small_f c hc, Small_f d hd, Option.bind_some, if_pos rfl, Option.bind_some, if_pos rfl, Option.bind_some, if_pos rfl, Option.bind_some]
  simp only [dancestudioref01_Compare.j0]
  rw [if_neg (by simp), sign_f, sign_f, Option.bind_some, Option.bind_some]
  by_cases h1 : sg (a * b) = sg (c * d)
  · rw [if_pos h1, rsize_f a ha, rsize_f b hb, rsize_f c hc, rsize_f d hd, Option.bind_some, Option.bind_some, wide_f a b ha hb, Option.bind_some, Option.bind_some, Option.bind_some, wide_f c d hc hd, Option.bind_some]
    by_cases h2 : w1 (a * b) = w1 (c * d)
    · rw [if_pos h2]
      by_cases h3 : w2 (a * b) = w2 (c * d)
      · rw [if_pos h3, rorder_f, Option.bind_some]
        exact cmp_w _ _ 0 h1 _ _ (cmp_w3 _ _ h1 h2 h3)
      · rw [if_neg h3, rorder_f, Option.bind_some]
        exact cmp_w _ _ 0 h1 _ _ (cmp_w2 _ _ h1 h2 h3)
    · rw [if_neg h2, rorder_f, Option.bind_some]
      exact cmp_w _ _ 0 h1 _ _ (cmp_w1 _ _ h1 h2)
  · rw [if_neg h1, Option.bind_some, rorder_f, Option.bind_some, cmp_sg _ _ h1]
theorem rtouch_f (k : Nat) (a0 a1 a2 a3 a4 b0 b1 b2 b3 b4 : Int) (hk : 20 ≤ k) : dancestudioref03_Touch.f k a0 a1 a2 a3 a4 b0 b1 b2 b3 b4 = some (tch a0 a1 a2 a3 a4 b0 b1 b2 b3 b4) := by
  obtain ⟨k, rfl⟩ : ∃ m, k = m + 2 := ⟨k - 2, by omega⟩
  unfold dancestudioref03_Touch.f tch
  rw [motion_f, motion_f, Option.bind_some, Option.bind_some]
  by_cases h : mOk a0 a1 a2 a3 a4 = true ∧ mOk b0 b1 b2 b3 b4 = true
  · rw [if_pos h, if_pos h.1, h.2]
    obtain ⟨⟨p1, p2, p3, p4⟩, ⟨p5, p6, p7, p8⟩, p9, p10⟩ := (mOk_iff _ _ _ _ _).1 h.1
    obtain ⟨⟨q1, q2, q3, q4⟩, ⟨q5, q6, q7, q8⟩, q9, q10⟩ := (mOk_iff _ _ _ _ _).1 h.2
    have hr := r2_sm a4 b4 ⟨p9, p10⟩ ⟨q9, q10⟩
    obtain ⟨s1, s1'⟩ := square_f a0 a1 b0 b1 (by omega) (by omega) (by omega) (by omega)
    obtain ⟨s2, s2'⟩ := square_f a2 a3 b2 b3 (by omega) (by omega) (by omega) (by omega)
    simp only [dancestudioref03_Touch.j0]
    rw [if_neg (by simp), s1, s2, Option.bind_some, Option.bind_some]
    rw [w64 (x := a0 - b0) (by omega) (by omega), w64 (x := a1 - b1) (by omega) (by omega), w64 (x := a2 - b2) (by omega) (by omega), w64 (x := a3 - b3) (by omega) (by omega), w64 (x := a2 - b2 - (a0 - b0)) (by omega) (by omega), w64 (x := a3 - b3 - (a1 - b1)) (by omega) (by omega), w64 (x := a4 + b4) (by omega) (by omega), w64 (x := (a4 + b4) * (a4 + b4)) (by omega) (by omega)]
    have href := nr_ref (a0 - b0) (a1 - b1) (a2 - a0 - (b2 - b0)) (a3 - a1 - (b3 - b1)) ((a4 + b4) * (a4 + b4))
    have ex : a2 - a0 - (b2 - b0) = a2 - b2 - (a0 - b0) := by omega
    have ey : a3 - a1 - (b3 - b1) = a3 - b3 - (a1 - b1) := by omega
    have eX : a0 - b0 + (a2 - b2 - (a0 - b0)) = a2 - b2 := by omega
    have eY : a1 - b1 + (a3 - b3 - (a1 - b1)) = a3 - b3 := by omega
    rw [ex, ey] at href ⊢
    rw [eX, eY] at href
    by_cases c1 : (a0 - b0) * (a0 - b0) + (a1 - b1) * (a1 - b1) < (a4 + b4) * (a4 + b4)
    · rw [if_pos c1, decide_eq_true (href.2 (.inl c1))]
      simp only [dancestudioref03_Touch.j1, if_true]
    · rw [if_neg c1]
      by_cases c2 : (a2 - b2) * (a2 - b2) + (a3 - b3) * (a3 - b3) < (a4 + b4) * (a4 + b4)
      · rw [decide_eq_true c2, decide_eq_true (href.2 (.inr (.inl c2)))]
        simp only [dancestudioref03_Touch.j1, if_true]
      · rw [decide_eq_false c2]
        simp only [dancestudioref03_Touch.j1]
        rw [if_neg (by simp)]
        have dx1 : -65536 ≤ a0 - b0 ∧ a0 - b0 ≤ 65536 := by omega
        have dy1 : -65536 ≤ a1 - b1 ∧ a1 - b1 ≤ 65536 := by omega
        have vx1 : -131072 ≤ a2 - b2 - (a0 - b0) ∧ a2 - b2 - (a0 - b0) ≤ 131072 := by omega
        have vy1 : -131072 ≤ a3 - b3 - (a1 - b1) ∧ a3 - b3 - (a1 - b1) ≤ 131072 := by omega
        clear ex ey eX eY s1 s2
        generalize a2 - b2 - (a0 - b0) = vx at *
        generalize a3 - b3 - (a1 - b1) = vy at *
        generalize a0 - b0 = dx at *
        generalize a1 - b1 = dy at *
        have m1 := mul_bd dx vx 131072 131072 (by omega) (by omega)
        have m2 := mul_bd dy vy 131072 131072 (by omega) (by omega)
        have m3 := mul_bd vx vx 131072 131072 (by omega) (by omega)
        have m4 := mul_bd vy vy 131072 131072 (by omega) (by omega)
        have m5 := mul_bd dx vy 131072 131072 (by omega) (by omega)
        have m6 := mul_bd dy vx 131072 131072 (by omega) (by omega)
        rw [w64 (x := dx * vx) (by omega) (by omega), w64 (x := dy * vy) (by omega) (by omega), w64 (x := vx * vx) (by omega) (by omega), w64 (x := vy * vy) (by omega) (by omega), w64 (x := dx * vy) (by omega) (by omega), w64 (x := dy * vx) (by omega) (by omega), w64 (x := dx * vx + dy * vy) (by omega) (by omega), w64 (x := -(dx * vx + dy * vy)) (by omega) (by omega), w64 (x := vx * vx + vy * vy) (by omega) (by omega), w64 (x := dx * vy - dy * vx) (by omega) (by omega), w64 (x := (a4 + b4) * (a4 + b4)) (by omega) (by omega)]
        by_cases c3 : -(dx * vx + dy * vy) ≤ 0
        · rw [if_pos c3, decide_eq_false (fun h => by rcases href.1 h with h | h | h; exact c1 h; exact c2 h; exact h.1 c3)]
        · rw [if_neg c3]
          by_cases c4 : -(dx * vx + dy * vy) ≥ vx * vx + vy * vy
          · rw [if_pos c4, decide_eq_false (fun h => by rcases href.1 h with h | h | h; exact c1 h; exact c2 h; exact h.2.1 c4)]
          · rw [if_neg c4, rcompare_f k _ _ _ _ ⟨by omega, by omega⟩ ⟨by omega, by omega⟩ ⟨by omega, by omega⟩ ⟨by omega, by omega⟩ (by omega), Option.bind_some]
            congr 2
            rw [decide_eq_decide, cmp_lt, href]
            constructor
            · intro h; exact .inr (.inr ⟨c3, c4, h⟩)
            · rintro (h | h | h)
              · exact absurd h c1
              · exact absurd h c2
              · exact h.2.2
  · rw [if_neg h]
    by_cases h1 : mOk a0 a1 a2 a3 a4 = true
    · have h2 : mOk b0 b1 b2 b3 b4 = false := by
        rw [Bool.eq_false_iff]
        exact fun hh => h ⟨h1, hh⟩
      rw [if_pos h1, h2]
      simp only [dancestudioref03_Touch.j0]
      rw [if_pos (show (!false) = true from rfl)]
    · rw [if_neg h1]
      simp only [dancestudioref03_Touch.j0]
      rw [if_pos trivial]
end Go.Proofs.Ytmdmajfgpmopbaa.GeoImpl

/- Check and Inside of the reference of stage, as printed. -/
namespace Go.Proofs.Ytmdmajfgpmopbaa.SImpl
open Go.RowKit Go.Proofs.YtmdmajfgpmopbaaW.PrintWords Go.Proofs.Ytmdmajfgpmopbaa.X Go.Proofs.Ytmdmajfgpmopbaa.Geo Go.Proofs.Ytmdmajfgpmopbaa.GeoImpl
set_option linter.unusedVariables false
set_option linter.unusedSimpArgs false
theorem inside_f (W D : Int) (L : List Blk) (x y r : Int) (h : wdOk W D) (hp : -32768 ≤ x ∧ x ≤ 32768 ∧ -32768 ≤ y ∧ y ≤ 32768) (hr : 0 ≤ r ∧ r ≤ 32768) : dancestudioref42_inside.f W D L x y r = some (inB W D x y r) := by
  obtain ⟨h1, h2, h3, h4, h5⟩ := h
  obtain ⟨e1, e2⟩ := half W h2 h3 h1
  unfold dancestudioref42_inside.f inB
  rw [e1, e2, w64 (x := x - r) (by omega) (by omega), w64 (x := x + r) (by omega) (by omega), w64 (x := y - r) (by omega) (by omega), w64 (x := y + r) (by omega) (by omega)]
  by_cases c1 : -(W / 2) ≤ x - r
  · rw [if_pos c1, decide_eq_true c1]
    by_cases c2 : x + r ≤ W / 2
    · rw [if_pos c2, decide_eq_true c2]
      by_cases c3 : 0 ≤ y - r
      · rw [if_pos c3, decide_eq_true c3]; rfl
      · rw [if_neg c3, decide_eq_false c3]; rfl
    · rw [if_neg c2, decide_eq_false c2]; rfl
  · rw [if_neg c1, decide_eq_false c1]; rfl
theorem rcheck_l0 (W D : Int) (h : wdOk W D) (L : List Blk) (hL : L.length ≤ 1000) : ∀ (r : List Blk) (i k : Nat), L.drop i = r → r.length < k → dancestudioref42_Check.l0 k (i : Int) W D L = some (if r.all (blkOk W D) = true then 0 else 29) := by
  intro r
  induction r with
  | nil =>
    intro i k hr hk
    obtain ⟨k, rfl⟩ : ∃ m, k = m + 1 := ⟨k - 1, by omega⟩
    have : L.length ≤ i := by simpa using hr
    simp only [dancestudioref42_Check.l0]
    rw [if_neg (by omega)]
    rfl
  | cons b r ih =>
    intro i k hr hk
    simp only [List.length_cons] at hk
    obtain ⟨k, rfl⟩ : ∃ m, k = m + 1 := ⟨k - 1, by omega⟩
    obtain ⟨h1, h2, h3⟩ := rdB_of_drop hr
    obtain ⟨w1, w2, w3, w4, w5⟩ := h
    obtain ⟨e1, e2⟩ := half W w2 w3 w1
    simp only [dancestudioref42_Check.l0]
    rw [if_pos (by omega), if_pos (by omega), h1, List.all_cons]
    unfold dancestudioref42_on.f
    rw [e1, e2]
    by_cases c : blkOk W D b = true
    · have c' := (blkOk_iff W D b).1 c
      rw [if_pos (show b.f0.f0 ≥ -(W / 2) by omega), if_pos (show b.f0.f0 ≤ W / 2 by omega), if_pos (show b.f0.f1 ≥ 0 by omega), Option.bind_some, if_pos (decide_eq_true (by omega)), if_neg (by omega), if_neg (by omega), w64 (by omega) (by omega), show (i : Int) + 1 = ((i + 1 : Nat) : Int) by omega, ih (i + 1) k h3 (by omega), c, Bool.true_and]
    · have c' : ¬ ((-(W / 2) ≤ b.f0.f0 ∧ b.f0.f0 ≤ W / 2 ∧ 0 ≤ b.f0.f1 ∧ b.f0.f1 ≤ D) ∧ 1 ≤ b.f1 ∧ b.f1 ≤ 32768) := fun hh => c ((blkOk_iff W D b).2 hh)
      rw [show blkOk W D b = false by simpa using c, Bool.false_and, if_neg (show ¬ (false = true) by simp)]
      by_cases c1 : b.f0.f0 ≥ -(W / 2)
      · rw [if_pos c1]
        by_cases c2 : b.f0.f0 ≤ W / 2
        · rw [if_pos c2]
          by_cases c3 : b.f0.f1 ≥ 0
          · rw [if_pos c3, Option.bind_some]
            by_cases c4 : b.f0.f1 ≤ D
            · rw [if_pos (decide_eq_true c4)]
              by_cases c5 : b.f1 < 1
              · rw [if_pos c5]
              · rw [if_neg c5, if_pos (by omega)]
            · rw [decide_eq_false c4, if_neg (by simp)]
          · rw [if_neg c3, Option.bind_some, if_neg (by simp)]
        · rw [if_neg c2, Option.bind_some, if_neg (by simp)]
      · rw [if_neg c1, Option.bind_some, if_neg (by simp)]
theorem rcheck_f (k : Nat) (W D : Int) (L : List Blk) (hk : 40 ≤ k) : dancestudioref42_Check.f k W D L = some (chk W D L) := by
  obtain ⟨k, rfl⟩ : ∃ m, k = m + 1 := ⟨k - 1, by omega⟩
  have hm : Int.tmod W 2 = 0 ↔ W % 2 = 0 := by
    rcases Int.le_total 0 W with h | h
    · rw [Int.tmod_eq_emod_of_nonneg h]
    · have e := Int.neg_tmod (a := -W) (b := 2)
      rw [Int.neg_neg, Int.tmod_eq_emod_of_nonneg (a := -W) (by omega)] at e
      omega
  have bad : ∀ k', 1 ≤ k' → dancestudioref42_Check.j0 k' true W D L = some 29 := by
    intro k' hk'
    obtain ⟨k', rfl⟩ : ∃ m, k' = m + 1 := ⟨k' - 1, by omega⟩
    simp only [dancestudioref42_Check.j0]
    rw [if_pos trivial]
  unfold dancestudioref42_Check.f chk
  by_cases h : wdOk W D
  · obtain ⟨w1, w2, w3, w4, w5⟩ := h
    rw [if_pos (show wdOk W D from ⟨w1, w2, w3, w4, w5⟩), if_neg (by omega), if_neg (by omega), if_pos (hm.2 w1), if_neg (by omega), decide_eq_false (by omega)]
    simp only [dancestudioref42_Check.j0]
    rw [if_neg (by simp)]
    by_cases c : L.length > 16
    · rw [if_pos (by omega), if_pos c]
    · rw [if_neg (by omega), if_neg c]
      exact rcheck_l0 W D ⟨w1, w2, w3, w4, w5⟩ L (by omega) L 0 k (by simp) (by omega)
  · rw [if_neg h]
    unfold wdOk at h
    by_cases c2 : W < 2
    · rw [if_pos c2]; exact bad _ (by omega)
    · rw [if_neg c2]
      by_cases c3 : W > 65536
      · rw [if_pos c3]; exact bad _ (by omega)
      · rw [if_neg c3]
        by_cases c1 : Int.tmod W 2 = 0
        · rw [if_pos c1]
          have := hm.1 c1
          by_cases c4 : D < 1
          · rw [if_pos c4]; exact bad _ (by omega)
          · rw [if_neg c4, decide_eq_true (by omega)]; exact bad _ (by omega)
        · rw [if_neg c1]; exact bad _ (by omega)
end Go.Proofs.Ytmdmajfgpmopbaa.SImpl

/- Clear of the reference of stage, as printed. -/
namespace Go.Proofs.Ytmdmajfgpmopbaa.SImpl
open Go.RowKit Go.Proofs.YtmdmajfgpmopbaaW.PrintWords Go.Proofs.Ytmdmajfgpmopbaa.X Go.Proofs.Ytmdmajfgpmopbaa.Geo Go.Proofs.Ytmdmajfgpmopbaa.GeoImpl
set_option linter.unusedVariables false
set_option linter.unusedSimpArgs false
theorem rclear_end (W D : Int) (h : wdOk W D) (m0 m1 m2 m3 m4 : Int) (hm : mOk m0 m1 m2 m3 m4 = true) (L : List Blk) (x i : Int) (k : Nat) (hk : 2 ≤ k) :
    dancestudioref42_Clear.j1 k x i false W D L m0 m1 m2 m3 m4 = some (inB W D m0 m1 m4 && inB W D m2 m3 m4, x, 0) := by
  obtain ⟨g1, g2, g3⟩ := (mOk_iff _ _ _ _ _).1 hm
  obtain ⟨k, rfl⟩ : ∃ m, k = m + 1 := ⟨k - 1, by omega⟩
  simp only [dancestudioref42_Clear.j1]
  rw [if_neg (by simp), inside_f W D L m0 m1 m4 h g1 g3, inside_f W D L m2 m3 m4 h g2 g3, Option.bind_some, Option.bind_some, both]
theorem rclear_l0 (W D : Int) (h : wdOk W D) (m0 m1 m2 m3 m4 : Int) (hm : mOk m0 m1 m2 m3 m4 = true) (L : List Blk) (hL : L.length ≤ 1000) : ∀ (r : List Blk) (i k : Nat), L.drop i = r → 2 * r.length + 30 < k →
    dancestudioref42_Clear.l0 k (-1) (i : Int) W D L m0 m1 m2 m3 m4 = some (inB W D m0 m1 m4 && inB W D m2 m3 m4, hit m0 m1 m2 m3 m4 r i, 0) := by
  intro r
  induction r with
  | nil =>
    intro i k hr hk
    obtain ⟨k, rfl⟩ : ∃ m, k = m + 1 := ⟨k - 1, by omega⟩
    have : L.length ≤ i := by simpa using hr
    simp only [dancestudioref42_Clear.l0]
    rw [if_neg (by omega), rclear_end W D h m0 m1 m2 m3 m4 hm L _ _ k (by omega)]
    rfl
  | cons b r ih =>
    intro i k hr hk
    simp only [List.length_cons] at hk
    obtain ⟨k, rfl⟩ : ∃ m, k = m + 2 := ⟨k - 2, by omega⟩
    obtain ⟨h1, h2, h3⟩ := rdB_of_drop hr
    simp only [dancestudioref42_Clear.l0]
    rw [if_pos (by omega), decide_eq_true (by omega)]
    simp only [dancestudioref42_Clear.j1]
    rw [if_pos trivial, if_pos (by omega), if_pos (by omega), h1, rtouch_f k _ _ _ _ _ _ _ _ _ _ (by omega), Option.bind_some, w64 (by omega) (by omega), show (i : Int) + 1 = ((i + 1 : Nat) : Int) by omega]
    by_cases c : (tch m0 m1 m2 m3 m4 b.f0.f0 b.f0.f1 b.f0.f0 b.f0.f1 b.f1).1 = true
    · rw [if_pos c]
      obtain ⟨k, rfl⟩ : ∃ m, k = m + 1 := ⟨k - 1, by omega⟩
      simp only [dancestudioref42_Clear.l0]
      simp only [hit]
      rw [if_pos c, decide_eq_false (by omega)]
      split <;> exact rclear_end W D h m0 m1 m2 m3 m4 hm L _ _ k (by omega)
    · rw [if_neg c, ih (i + 1) k h3 (by omega)]
      simp only [hit]
      rw [if_neg c]
      rfl
theorem rclear_f (k : Nat) (W D : Int) (L : List Blk) (m0 m1 m2 m3 m4 : Int) (hk : 80 ≤ k) : dancestudioref42_Clear.f k W D L m0 m1 m2 m3 m4 = some (clr W D L m0 m1 m2 m3 m4) := by
  unfold dancestudioref42_Clear.f clr
  rw [rcheck_f k W D L (by omega), Option.bind_some]
  by_cases h : chk W D L = 0
  · rw [if_pos h, if_pos h, rtouch_f k _ _ _ _ _ _ _ _ _ _ (by omega), Option.bind_some, touch_self]
    obtain ⟨c1, c2, c3⟩ := chk_ok h
    by_cases hm : mOk m0 m1 m2 m3 m4 = true
    · rw [if_pos hm, if_pos rfl, if_pos hm]
      exact rclear_l0 W D c1 m0 m1 m2 m3 m4 hm L (by omega) L 0 k (by simp) (by omega)
    · rw [if_neg hm, if_neg (by omega), if_neg hm]
  · rw [if_neg h, if_neg h]
end Go.Proofs.Ytmdmajfgpmopbaa.SImpl

/- FlFirst: the reference's side. -/
namespace Go.Proofs.Ytmdmajfgpmopbaa.Fl
open Go.RowKit Go.Proofs.YtmdmajfgpmopbaaW.PrintWords Go.Proofs.Ytmdmajfgpmopbaa.X Go.Proofs.Ytmdmajfgpmopbaa.Geo Go.Proofs.Ytmdmajfgpmopbaa.GeoImpl
set_option linter.unusedVariables false
set_option linter.unusedSimpArgs false
theorem rf_l0 (W D : Int) (L : List SImpl.Blk) (hs : SImpl.chk W D L = 0) (P : List Sp) (U : List Int) (h : chk P U = 0) (r : Int) (h0 : 0 ≤ r) (h1 : r ≤ 32768) : ∀ (m i k : Nat), i + m = U.length → m + 90 < k →
    dancestudioref43_First.l0 k r (i : Int) W D L P U = some (fst W D L P r m i) := by
  obtain ⟨c1, c2, c3, _, _⟩ := chk_ok h
  intro m
  induction m with
  | zero =>
    intro i k hi hk
    obtain ⟨k, rfl⟩ : ∃ m, k = m + 1 := ⟨k - 1, by omega⟩
    rw [dancestudioref43_First.l0, if_neg (by omega)]
    rfl
  | succ m ih =>
    intro i k hi hk
    obtain ⟨k, rfl⟩ : ∃ m, k = m + 1 := ⟨k - 1, by omega⟩
    rw [dancestudioref43_First.l0, if_pos (by omega), if_pos (by omega), if_pos (by omega), w64 (x := (i : Int) + 1) (by omega) (by omega), if_pos (by omega), if_pos (by omega), show (i : Int) + 1 = ((i + 1 : Nat) : Int) by omega]
    have he : dancestudioref42_Clear.f k W D L (rd_T53 P (i : Int)).f0.f0 (rd_T53 P (i : Int)).f0.f1 (rd_T53 P ((i + 1 : Nat) : Int)).f0.f0 (rd_T53 P ((i + 1 : Nat) : Int)).f0.f1 r = some (cl W D L P r i) := SImpl.rclear_f k W D L _ _ _ _ _ (by omega)
    rw [he, Option.bind_some, fst]
    exact push4 _ _ _ _ (push4 _ _ _ _ rfl (ih (i + 1) k (by omega) (by omega))) rfl
theorem rf_f (k : Nat) (W D : Int) (L : List SImpl.Blk) (P : List Sp) (U : List Int) (r : Int) (hP : P.length ≤ 200) (hU : U.length ≤ 200) (hk : 17000 ≤ k) : dancestudioref43_First.f k W D L P U r = some (fstV W D L P U r) := by
  unfold dancestudioref43_First.f fstV
  rw [SImpl.rcheck_f k W D L (by omega), Option.bind_some]
  by_cases hs : SImpl.chk W D L = 0
  · rw [if_pos hs, if_pos hs, r_f k P U (by omega) (by omega) (by omega), Option.bind_some]
    by_cases h : chk P U = 0
    · rw [if_pos h, if_pos h]
      obtain ⟨k, rfl⟩ : ∃ m, k = m + 1 := ⟨k - 1, by omega⟩
      by_cases h0 : r < 0
      · rw [if_pos h0, dancestudioref43_First.j0, if_pos rfl, if_neg (by omega)]
      · rw [if_neg h0]
        by_cases h1 : r > 32768
        · rw [decide_eq_true h1, dancestudioref43_First.j0, if_pos rfl, if_neg (by omega)]
        · rw [decide_eq_false h1, dancestudioref43_First.j0, if_neg (by simp), if_pos (by omega)]
          exact rf_l0 W D L hs P U h r (by omega) (by omega) U.length 0 k (by omega) (by omega)
    · rw [if_neg h, if_neg h]
  · rw [if_neg hs, if_neg hs]
end Go.Proofs.Ytmdmajfgpmopbaa.Fl

/- The law FloorFirsts over numbers and lists. -/
namespace Go.Proofs.Ytmdmajfgpmopbaa.Pure
open Go.RowKit Go.Proofs.YtmdmajfgpmopbaaW.PrintWords Go.Proofs.Ytmdmajfgpmopbaa.X Go.Proofs.Ytmdmajfgpmopbaa.Fl
set_option linter.unusedVariables false
set_option linter.unusedSimpArgs false
theorem great_f (P : List Sp) (U : List Int) : dancestudiolaw43_great.f P U = some (decide (200 < P.length ∨ 200 < U.length)) := by
  unfold dancestudiolaw43_great.f
  by_cases h : 200 < P.length
  · rw [if_pos (by omega), decide_eq_true (Or.inl h)]
  · rw [if_neg (by omega)]
    congr 1
    rw [decide_eq_decide]
    omega
theorem FloorFirsts (W D : Int) (L : List SImpl.Blk) (P : List Sp) (U : List Int) (r : Int) : ∃ k, X.dancestudiolaw43_FloorFirsts.f k W D L P U r = some true := by
  refine ⟨20000, ?_⟩
  generalize hk : 20000 = k
  unfold dancestudiolaw43_FloorFirsts.f
  rw [great_f, Option.bind_some]
  by_cases hg : 200 < P.length ∨ 200 < U.length
  · rw [decide_eq_true hg, if_pos rfl]
    rfl
  · rw [decide_eq_false hg, if_neg (by simp), ff_f k W D L P U r (by omega) (by omega) (by omega), rf_f k W D L P U r (by omega) (by omega) (by omega), Option.bind_some, Option.bind_some]
    rw [beq_self_eq_true, beq_self_eq_true, beq_self_eq_true, if_pos rfl]
    rfl
end Go.Proofs.Ytmdmajfgpmopbaa.Pure

/- FloorFirsts: WHATEVER THE INPUT, the law returns true and its arguments read as they did: the row over the printed walk and the plain statement. -/
namespace Go.Proofs.Ytmdmajfgpmopbaa.floorFirsts
open Go.ChangeShapes Go.WideShapes Go.ChangeAt Go.RowKit Go.Proofs.YtmdmajfgpmopbaaW.PrintWords
open Go.ChangeMaps (open_string shut_string)
set_option linter.unusedVariables false
set_option linter.unusedSimpArgs false
theorem own : ownKnob Try.prog.godebug = none := by kernel_rfl
theorem laidOut : laidOutB Try.prog = true := by kernel_rfl
set_option maxRecDepth 100000 in
theorem contract (H : Type) (enc : TypeId × Value → H) (W : World) (base : Nat) (args : Array Value) (ds gs : List (DataW H)) (before : List MemPlace)
    (hval : ∀ (j : Nat) t v, Try.f4.params[j]? = some t → args[j]? = some v → Value.okWide Try.prog W .any base t v)
    (hW : DataW.Whole enc Try.prog Try.f4.params.toList Rows.floorFirstsSpec.vars false W args.toList ds gs before) :
    Calls Try.prog 4 args W fun e W' => ∃ v, e = .returned v ∧ Rows.floorFirstsSpec.post enc Try.prog Try.f4 false true false false W args v W' := by
  have hW' := hW
  obtain ⟨p, q, hA0, hV, rfl, hfz, hnd⟩ := hW
  have hA : DataW.TrodAll enc Try.prog W 0 (fun _ => true) true Try.f4.params.toList args.toList ds p := hA0
  rw [Try.params4] at hA hval
  obtain ⟨v0, vs0, d0, ds0, p0, q0, hargs, rfl, rfl, h0, r0⟩ := trodAll_cons hA
  obtain ⟨v1, vs1, d1, ds1, p1, q1, rfl, rfl, rfl, h1, r1⟩ := trodAll_cons r0
  obtain ⟨v2, vs2, d2, ds2, p2, q2, rfl, rfl, rfl, h2, r2⟩ := trodAll_cons r1
  obtain ⟨rfl, rfl, rfl⟩ := trodAll_nil r2
  obtain rfl : args = #[v0, v1, v2] := by cases args; simp_all
  obtain ⟨rfl, rfl⟩ := trodVars_none hV
  have k0 := h0
  have lt0 : ∀ x ∈ p0, x.block < W.heap.size := by obtain ⟨m, hm⟩ := k0; exact DataW.trod_lt m _ _ _ hm
  have o0 : Opens enc Try.prog W (Kd.pair (Kd.int .i64) (Kd.pair (Kd.int .i64) (Kd.slice 64 X.k64))) 42 _ _ := (Opens.agg Try.underlying42 (by kernel_rfl) (OpensFs.cons rfl (Opens.int Try.underlying3 (by kernel_rfl)) (OpensFs.cons rfl (Opens.int Try.underlying3 (by kernel_rfl)) (OpensFs.last rfl (Opens.slice Try.underlying40 (by kernel_rfl) (show Opens enc Try.prog W X.k64 64 _ _ from Opens.struct Try.underlying64 (by kernel_rfl) (fun x : X.S64 => (x.f0, x.f1)) (fun p => ⟨p.1, p.2⟩) (fun _ => rfl) (OpensFs.cons rfl (show Opens enc Try.prog W X.k35 35 _ _ from Opens.struct Try.underlying35 (by kernel_rfl) (fun x : X.S35 => (x.f0, x.f1)) (fun p => ⟨p.1, p.2⟩) (fun _ => rfl) (OpensFs.cons rfl (Opens.int Try.underlying3 (by kernel_rfl)) (OpensFs.last rfl (Opens.int Try.underlying3 (by kernel_rfl))))) (OpensFs.last rfl (Opens.int Try.underlying3 (by kernel_rfl))))))))))
  obtain ⟨y0, cs0, rfl, K0, G0, b0⟩ := o0.arg_agg Try.underlying42 (hval 0 42 v0 rfl rfl) k0
  obtain ⟨x0_0, x0_1, x0_2⟩ := y0
  obtain ⟨_, _, hcs0, rfl, ⟨_, _, rfl, rfl, ⟨A0_2, c0_2, rfl, l0_2, C0_2⟩⟩⟩ := K0
  obtain rfl : cs0 = #[.int .i64 x0_0, .int .i64 x0_1, .slice A0_2 x0_2.length c0_2] := by apply Array.toList_inj.1; simpa using hcs0
  obtain ⟨g0_0, g0_1, g0_2⟩ := G0
  have k1 := h1
  have lt1 : ∀ x ∈ p1, x.block < W.heap.size := by obtain ⟨m, hm⟩ := k1; exact DataW.trod_lt m _ _ _ hm
  have o1 : Opens enc Try.prog W (Kd.pair (Kd.slice 53 X.k53) (Kd.slice 3 (Kd.int .i64))) 25 _ _ := (Opens.agg Try.underlying25 (by kernel_rfl) (OpensFs.cons rfl (Opens.slice Try.underlying22 (by kernel_rfl) (show Opens enc Try.prog W X.k53 53 _ _ from Opens.struct Try.underlying53 (by kernel_rfl) (fun x : X.S53 => (x.f0, x.f1, x.f2, x.f3)) (fun p => ⟨p.1, p.2.1, p.2.2.1, p.2.2.2⟩) (fun _ => rfl) (OpensFs.cons rfl (show Opens enc Try.prog W X.k35 35 _ _ from Opens.struct Try.underlying35 (by kernel_rfl) (fun x : X.S35 => (x.f0, x.f1)) (fun p => ⟨p.1, p.2⟩) (fun _ => rfl) (OpensFs.cons rfl (Opens.int Try.underlying3 (by kernel_rfl)) (OpensFs.last rfl (Opens.int Try.underlying3 (by kernel_rfl))))) (OpensFs.cons rfl (Opens.int Try.underlying3 (by kernel_rfl)) (OpensFs.cons rfl (Opens.int Try.underlying3 (by kernel_rfl)) (OpensFs.last rfl (show Opens enc Try.prog W X.k51 51 _ _ from Opens.structA Try.underlying51 (by kernel_rfl) (fun x : X.S51 => (x.f0, x.f1, x.f2, x.f3, x.f4, x.f5)) (fun p => ⟨p.1, p.2.1, p.2.2.1, p.2.2.2.1, p.2.2.2.2.1, p.2.2.2.2.2⟩) (fun _ => rfl) (OpensAs.cons (show Opens enc Try.prog W X.k50 50 _ _ from Opens.struct Try.underlying50 (by kernel_rfl) (fun x : X.S50 => (x.f0, x.f1, x.f2)) (fun p => ⟨p.1, p.2.1, p.2.2⟩) (fun _ => rfl) (OpensFs.cons rfl (Opens.int Try.underlying3 (by kernel_rfl)) (OpensFs.cons rfl (Opens.int Try.underlying3 (by kernel_rfl)) (OpensFs.last rfl (Opens.int Try.underlying3 (by kernel_rfl)))))) (OpensAs.cons (show Opens enc Try.prog W X.k50 50 _ _ from Opens.struct Try.underlying50 (by kernel_rfl) (fun x : X.S50 => (x.f0, x.f1, x.f2)) (fun p => ⟨p.1, p.2.1, p.2.2⟩) (fun _ => rfl) (OpensFs.cons rfl (Opens.int Try.underlying3 (by kernel_rfl)) (OpensFs.cons rfl (Opens.int Try.underlying3 (by kernel_rfl)) (OpensFs.last rfl (Opens.int Try.underlying3 (by kernel_rfl)))))) (OpensAs.cons (show Opens enc Try.prog W X.k50 50 _ _ from Opens.struct Try.underlying50 (by kernel_rfl) (fun x : X.S50 => (x.f0, x.f1, x.f2)) (fun p => ⟨p.1, p.2.1, p.2.2⟩) (fun _ => rfl) (OpensFs.cons rfl (Opens.int Try.underlying3 (by kernel_rfl)) (OpensFs.cons rfl (Opens.int Try.underlying3 (by kernel_rfl)) (OpensFs.last rfl (Opens.int Try.underlying3 (by kernel_rfl)))))) (OpensAs.cons (show Opens enc Try.prog W X.k50 50 _ _ from Opens.struct Try.underlying50 (by kernel_rfl) (fun x : X.S50 => (x.f0, x.f1, x.f2)) (fun p => ⟨p.1, p.2.1, p.2.2⟩) (fun _ => rfl) (OpensFs.cons rfl (Opens.int Try.underlying3 (by kernel_rfl)) (OpensFs.cons rfl (Opens.int Try.underlying3 (by kernel_rfl)) (OpensFs.last rfl (Opens.int Try.underlying3 (by kernel_rfl)))))) (OpensAs.cons (show Opens enc Try.prog W X.k50 50 _ _ from Opens.struct Try.underlying50 (by kernel_rfl) (fun x : X.S50 => (x.f0, x.f1, x.f2)) (fun p => ⟨p.1, p.2.1, p.2.2⟩) (fun _ => rfl) (OpensFs.cons rfl (Opens.int Try.underlying3 (by kernel_rfl)) (OpensFs.cons rfl (Opens.int Try.underlying3 (by kernel_rfl)) (OpensFs.last rfl (Opens.int Try.underlying3 (by kernel_rfl)))))) (OpensAs.last (show Opens enc Try.prog W X.k50 50 _ _ from Opens.struct Try.underlying50 (by kernel_rfl) (fun x : X.S50 => (x.f0, x.f1, x.f2)) (fun p => ⟨p.1, p.2.1, p.2.2⟩) (fun _ => rfl) (OpensFs.cons rfl (Opens.int Try.underlying3 (by kernel_rfl)) (OpensFs.cons rfl (Opens.int Try.underlying3 (by kernel_rfl)) (OpensFs.last rfl (Opens.int Try.underlying3 (by kernel_rfl))))))))))))))))))) (OpensFs.last rfl (Opens.slice Try.underlying23 (by kernel_rfl) (Opens.int Try.underlying3 (by kernel_rfl))))))
  obtain ⟨y1, cs1, rfl, K1, G1, b1⟩ := o1.arg_agg Try.underlying25 (hval 1 25 v1 rfl rfl) k1
  obtain ⟨x1_0, x1_1⟩ := y1
  obtain ⟨_, _, hcs1, ⟨A1_0, c1_0, rfl, l1_0, C1_0⟩, ⟨A1_1, c1_1, rfl, l1_1, C1_1⟩⟩ := K1
  obtain rfl : cs1 = #[.slice A1_0 x1_0.length c1_0, .slice A1_1 x1_1.length c1_1] := by apply Array.toList_inj.1; simpa using hcs1
  obtain ⟨g1_0, g1_1⟩ := G1
  have k2 := h2
  have lt2 : ∀ x ∈ p2, x.block < W.heap.size := by obtain ⟨m, hm⟩ := k2; exact DataW.trod_lt m _ _ _ hm
  obtain ⟨x2, rfl, rfl, rfl, g2⟩ := open_int Try.underlying3 (hval 2 3 v2 rfl rfl) h2
  have b2 := bulk_one (H := H) (.lit (.int .i64 x2))
  obtain ⟨k, hf⟩ := Pure.FloorFirsts x0_0 x0_1 x0_2 x1_0 x1_1 x2 
  refine (X.dancestudiolaw43_FloorFirsts.calls k x0_0 x0_1 _ _ x0_2 _ _ x1_0 _ _ x1_1 x2 true W C0_2 l0_2 C1_0 l1_0 C1_1 l1_1 hf).mono ?_
  rintro e W' ⟨rfl, hd⟩
  have bel : Below W.heap.size W W' := hd
  exact ⟨_, rfl, _, _, _, [], _, [], hW', trodAll_mk1 (shut_bool Try.underlying4 _), (trodAll_cons_mk (Below.trod laidOut (by kernel_rfl) (of_decide_eq_true (by kernel_rfl)) k0 bel lt0) (trodAll_cons_mk (Below.trod laidOut (by kernel_rfl) (of_decide_eq_true (by kernel_rfl)) k1 bel lt1) (trodAll_cons_mk (Below.trod laidOut (by kernel_rfl) (of_decide_eq_true (by kernel_rfl)) k2 bel lt2) trodAll_mk0))), rfl, bel.frame _, fun h => by cases h⟩
set_option maxRecDepth 100000 in
theorem lifted (os : Os) (started : os.Started) (H : Type) (enc : TypeId × Value → H) :
    ReturnsInHanded {} Try.checked os 4 .any (Rows.floorFirstsSpec.pre6 enc Try.prog Try.f4 Rows.floorFirstsRow.domain false) (Rows.floorFirstsSpec.post enc Try.prog Try.f4 false true false false) := by
  refine returnsInHanded_of_change_sized (C := Try.checked) own started (by kernel_rfl) Try.func4
    (ChangeSpec.witness6 (enc := enc) (C := Try.checked) false ⟨#[], #[.agg #[.int .i64 0, .int .i64 0, .slice none 0 0], .agg #[.slice none 0 0, .slice none 0 0], .int .i64 0], []⟩ 8 (by kernel_rfl) (by kernel_rfl) (by kernel_rfl) (by kernel_rfl)) ?_
  intro W base args ds gs before hval hW _ _ _
  exact contract H enc W base args ds gs before hval hW
theorem over : Rows.floorFirstsRow.holds Try.pinned (OpenSpec.ofChange Rows.floorFirstsSpec) :=
  OpenClaim.holds_of_wide 4 Try.f4 rfl rfl rfl rfl rfl rfl rfl ⟨rfl, rfl, rfl, rfl, rfl⟩ rfl rfl rfl rfl rfl (by kernel_rfl) Try.func4 (by kernel_rfl)
    (of_decide_eq_true (by kernel_rfl)) (by unfold Func.isWrapper; first | (rw [if_pos (by decide +kernel)]; kernel_rfl) | (rw [if_neg (by decide +kernel)]; exact ⟨rfl, rfl⟩))
    (fun os started H enc _ => lifted os started H enc)
end Go.Proofs.Ytmdmajfgpmopbaa.floorFirsts
namespace Go.Proofs.Ytmdmajfgpmopbaa
/-- The row, under a short name. -/
theorem floorFirsts_holds : Rows.FloorFirstsSaid := floorFirsts.over
#print axioms floorFirsts_holds
end Go.Proofs.Ytmdmajfgpmopbaa
