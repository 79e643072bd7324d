import Derived.Test.YteflngoiebgdaaaProg
import Derived.Below
import Derived.Deep.Draws
import Derived.Deep.AppendLies
import Derived.Maps.AppendAt
import Derived.OwnWalk
import Derived.Laws.BytesArg
import Derived.Laws.MakeOwn
import Derived.Laws.OwnMore
import Derived.Deep.OwnRows
import Derived.Tactics
import Derived.Lib.ConvBytes
import Derived.Laws.Slices
import Derived.WalkKit
import Derived.KernelRfl
import Derived.RowKit3
import Derived.Deep.LoopGhost
import Derived.Deep.QuietTactic
import Derived.BigQuiet
import Derived.WideLaws
import Derived.Deep.DeepCutAuto
import Derived.Deep.CutBlock
import Derived.Deep.RegionHeld3
import Derived.Laws.Rows
import Derived.Lib.AppendStr
import Derived.ArgAppend
import Derived.Laws.IdiomCopy
import Derived.OrdersHeld
import Derived.Laws.BitsLemmas
import Derived.RowKit
import Derived.BigFrameIn
import Derived.Deep.RegionWith
import Derived.Handy
import Derived.Lib.SliceRun
import Derived.Lib.Walk
import Derived.LoopIn
import Derived.LoopN
import Derived.LoopNIn
import Derived.OrdersIn
import Derived.OwnWalkIn
import Derived.RangeFuncBox
import Derived.RangeFuncLeaves
import Derived.RangeFuncNested
import Derived.RegionCalls
import Derived.RegionTactic
import Derived.Shelf.Abstract
import Derived.StillTailTactics
import Derived.TacticsInMore
import Derived.Test.YteflngoiebgdaaaXArr
import Derived.Test.YteflngoiebgdaaaXPress
import Derived.Test.YteflngoiebgdaaaXRound
import Derived.WalkMore
import Derived.Test.YteflngoiebgdaaaXWInvWordsMore
namespace Go.Proofs.Yteflngoiebgdaaa.X
open Go.RowKit Go.Proofs.YteflngoiebgdaaaW.PrintWords Go.Proofs.YteflngoiebgdaaaW.PrintLast Go.Proofs.YteflngoiebgdaaaW.PrintMore
attribute [local go_sem] max2_int min2_int max_two min_two max_three min_three max_four min_four
set_option linter.unusedVariables false
set_option linter.unusedSimpArgs false
/-! #### the pairs of numbers below n, the lower one first -/
def collide_pairs.part {α : Type} (g : Nat → Nat → α) (a b : Nat) : List α := (List.range (b - (a + 1))).map fun i => g a (a + 1 + i)
def collide_pairs.rows {α : Type} (g : Nat → Nat → α) (n : Nat) : Nat → List α
  | 0 => []
  | a + 1 => collide_pairs.rows g n a ++ collide_pairs.part g a n
def collide_pairs.prs {α : Type} (g : Nat → Nat → α) (n : Nat) : List α := collide_pairs.rows g n n
theorem collide_pairs.part_start {α : Type} (g : Nat → Nat → α) (a : Nat) : collide_pairs.part g a (a + 1) = [] := by simp [collide_pairs.part]
theorem collide_pairs.part_succ {α : Type} (g : Nat → Nat → α) (a b : Nat) (h : a + 1 ≤ b) : collide_pairs.part g a (b + 1) = collide_pairs.part g a b ++ [g a b] := by
  unfold collide_pairs.part
  rw [show b + 1 - (a + 1) = (b - (a + 1)) + 1 by omega, List.range_succ, List.map_append, List.map_singleton, show a + 1 + (b - (a + 1)) = b by omega]
theorem collide_pairs.part_length {α : Type} (g : Nat → Nat → α) (a b : Nat) : (collide_pairs.part g a b).length = b - (a + 1) := by simp [collide_pairs.part]
theorem collide_pairs.part_le {α : Type} (g : Nat → Nat → α) (a b n : Nat) (h : b ≤ n) : (collide_pairs.part g a b).length ≤ (collide_pairs.part g a n).length := by rw [collide_pairs.part_length, collide_pairs.part_length]; omega
theorem collide_pairs.rows_mono {α : Type} (g : Nat → Nat → α) (n : Nat) : ∀ a b, a ≤ b → (collide_pairs.rows g n a).length ≤ (collide_pairs.rows g n b).length
  | a, 0, h => by obtain rfl : a = 0 := by omega
                  exact Nat.le_refl _
  | a, b + 1, h => by
    rcases Nat.lt_or_ge a (b + 1) with h1 | h1
    · have := collide_pairs.rows_mono g n a b (by omega)
      show _ ≤ (collide_pairs.rows g n b ++ collide_pairs.part g b n).length
      rw [List.length_append]
      omega
    · obtain rfl : a = b + 1 := by omega
      exact Nat.le_refl _
/-- The place before the pair (a, b) lies below the number of all pairs. -/
theorem collide_pairs.before {α : Type} (g : Nat → Nat → α) (n a b : Nat) (ha : a + 1 ≤ b) (hb : b < n) : (collide_pairs.rows g n a ++ collide_pairs.part g a b).length < (collide_pairs.prs g n).length := by
  have h1 := collide_pairs.rows_mono g n (a + 1) n (by omega)
  have h2 : (collide_pairs.rows g n (a + 1)).length = (collide_pairs.rows g n a).length + (n - (a + 1)) := by
    show (collide_pairs.rows g n a ++ collide_pairs.part g a n).length = _
    rw [List.length_append, collide_pairs.part_length]
  rw [List.length_append, collide_pairs.part_length]
  unfold collide_pairs.prs
  omega
section
attribute [local go_sem] Oper.semAt_some
set_option maxHeartbeats 4000000 in
set_option maxRecDepth 100000 in
/-- The iterator: each pair, till a round says no. -/
theorem collide_pairs.pairs1_in {α : Type} (encs : α → Array Value) (g : Nat → Nat → α) (Kp : World → World → Prop) (hKr : ∀ A, Kp A A) (hKt : ∀ {A B C : World}, Kp A B → Kp B C → Kp A C) (n l Bs m : Nat) (hm : m ≤ 1000000) (hge : ∀ a b, a < b → b < m → encs (g a b) = #[.int .i64 (a : Int), .int .i64 (b : Int)])
    (hKc : ∀ A B : World, Kp A B → ∀ v, A.cell? ⟨Bs, 0, none⟩ = some v → B.cell? ⟨Bs, 0, none⟩ = some v) (J Jx : List α → World → Prop)
    (hY : ∀ pre x W, J pre W → pre.length < (collide_pairs.prs g m).length → YieldAt Fence.wide (n - 1) Try.prog l (encs x) W fun e W' =>
      (e = .returned (.bool true) ∧ J (pre ++ [x]) W' ∧ Kp W W') ∨ (e = .returned (.bool false) ∧ Jx (pre ++ [x]) W'))
    (W : World) (hBs : W.cell? ⟨Bs, 0, none⟩ = some (.int .i64 (m : Int))) (h0 : J [] W) :
    CallsIn Fence.wide n Try.prog 50 #[.func (.yield l) #[] #[], .pointer (some ⟨Bs, 0, none⟩)] W fun e W' => (∃ v, e = .returned v) ∧
      ((∃ ys, ys = collide_pairs.prs g m ∧ J ys W') ∨ (∃ pre, (∃ a b, a + 1 ≤ b ∧ b < m ∧ pre = (collide_pairs.rows g m a ++ collide_pairs.part g a b) ++ [g a b]) ∧ Jx pre W')) := by
  refine callsIn_of_wp Try.func50 rfl trivial ?_ rfl
  simp only [Try.ntmps50, List.size_toArray, List.length_cons, List.length_nil, Nat.reduceAdd, Nat.reduceSub, Array.replicate_succ, Array.replicate_zero, List.push_toArray, List.append_toArray, List.nil_append, List.cons_append]
  gi_wp2
  gi_loopw [6] (fun i wr => ∃ a : Nat, i = .int .i64 (a : Int) ∧ a ≤ m ∧ J (collide_pairs.rows g m a) wr ∧ Kp W wr)
    (fun i _ => m - (intOf i).toNat)
  case atStart => exact ⟨0, rfl, Nat.zero_le _, h0, hKr _⟩
  case round =>
    obtain ⟨a, rfl, ha, hJs, hnx⟩ := hrel
    by_cases hlt : a < m
    · gi_wp2
      gi_loopw [4] (fun i wr2 => ∃ b : Nat, i = .int .i64 (b : Int) ∧ a + 1 ≤ b ∧ b ≤ m ∧ J (collide_pairs.rows g m a ++ collide_pairs.part g a b) wr2 ∧ Kp W wr2)
        (fun i _ => m - (intOf i).toNat)
      case atStart => exact ⟨a + 1, by go_num, Nat.le_refl _, hlt, by rw [collide_pairs.part_start, List.append_nil]; exact hJs, hnx⟩
      case round =>
        obtain ⟨b, rfl, hb1, hb2, hJ2, hnx2⟩ := hrel
        have hBx := hKc _ _ hnx2 _ hBs
        by_cases hlb : b < m
        · obtain ⟨fn, tmps, assign, body, hy, hR⟩ := hY _ (g a b) _ hJ2 (collide_pairs.before g m a b hb1 hlb)
          rw [hge a b hb1 hlb] at hy
          have hR2 : RoundIn Fence.wide (n - 1) Try.prog l fn tmps assign body wr fun e W' => ∃ q, e = .returned (.bool q) ∧ ((q = true ∧ J ((collide_pairs.rows g m a ++ collide_pairs.part g a b) ++ [g a b]) W' ∧ Kp wr W') ∨ (q = false ∧ Jx ((collide_pairs.rows g m a ++ collide_pairs.part g a b) ++ [g a b]) W')) := hR.mono (fun e W' h => by
            rcases h with ⟨rfl, h⟩ | ⟨rfl, h⟩
            · exact ⟨true, rfl, .inl ⟨rfl, h⟩⟩
            · exact ⟨false, rfl, .inr ⟨rfl, h⟩⟩)
          clear hR
          have HB1 := Aside0.mk hb1
          clear hb1 hb2
          gi_wp2
          refine ⟨fun hd => absurd hd (by simp [Fence.wide]), hR2.mono ?_⟩
          rintro e W3 ⟨q, rfl, ⟨rfl, hJ3, hk3⟩ | ⟨rfl, hJx3⟩⟩
          · gi_wp2
            go_roundw
            case rel => exact ⟨b + 1, by go_num, by have := HB1.out; omega, by omega, by rw [collide_pairs.part_succ g a b HB1.out, ← List.append_assoc]; exact hJ3, hKt hnx2 hk3⟩
            case measure => simp [intOf]; omega
          · gi_wp2
            refine bodyPost_ret (results_none rfl _ _ _) rfl ?_
            exact ⟨⟨_, rfl⟩, .inr ⟨_, ⟨a, b, HB1.out, hlb, rfl⟩, hJx3⟩⟩
        · have hbe : b = m := by omega
          subst hbe
          gi_wp2
          go_roundw
          case rel => exact ⟨a + 1, by go_num, by omega, hJ2, hnx2⟩
          case measure => simp [intOf]; omega
    · have hae : a = m := by omega
      subst hae
      gi_wp2
      go_end0
      exact ⟨⟨_, rfl⟩, .inl ⟨_, rfl, hJs⟩⟩
end
/-- What the iterator gives. -/
theorem collide_pairs.stopsK {α : Type} (encs : α → Array Value) (g : Nat → Nat → α) (Kp : World → World → Prop) (hKr : ∀ A, Kp A A) (hKt : ∀ {A B C : World}, Kp A B → Kp B C → Kp A C) (n Bs m : Nat) (hm : m ≤ 1000000) (hge : ∀ a b, a < b → b < m → encs (g a b) = #[.int .i64 (a : Int), .int .i64 (b : Int)])
    (hKc : ∀ A B : World, Kp A B → ∀ v, A.cell? ⟨Bs, 0, none⟩ = some v → B.cell? ⟨Bs, 0, none⟩ = some v) (w : World) (hBlt : Bs < w.heap.size) (hBs : w.cell? ⟨Bs, 0, none⟩ = some (.int .i64 (m : Int))) :
    SeqStopsK Fence.wide n Try.prog 50 #[.pointer (some ⟨Bs, 0, none⟩)] encs Kp (fun ys => ys = collide_pairs.prs g m) (fun pre => ∃ a b, a + 1 ≤ b ∧ b < m ∧ pre = (collide_pairs.rows g m a ++ collide_pairs.part g a b) ++ [g a b]) (collide_pairs.prs g m).length w := fun l J Jx W hW hJ _ hY h0 =>
  collide_pairs.pairs1_in encs g Kp hKr hKt n l Bs m hm hge hKc J Jx hY W ((hW.cell (p := ⟨Bs, 0, none⟩) hBlt).trans hBs) h0
set_option maxHeartbeats 4000000 in
theorem collide_pairs.gives (n : Int) (w : World) :
    Calls Try.prog 31 #[.int .i64 n] w fun e w' => e = .returned (.func (.func 50) #[] #[.pointer (some ⟨w.heap.size, 0, none⟩)]) ∧ w' = w.alloc (.cells #[.int .i64 n] 3 (0, 0)) := by
  have hmf : ∀ (fn : Fn) (first cap : Array Value) (w : World), (Instr.makeFunc fn first cap).run Try.prog w = .ok (.func fn first cap) w := fun _ _ _ _ => rfl
  go_enter Try.func31, Try.ntmps31
  go_wp2
  go_ret
  exact ⟨rfl, rfl⟩
/-- A pair of numbers below m; what is none stands for the first. -/
def collide_pairs.cl (m : Nat) (p : Nat × Nat) : Nat × Nat := if p.1 < p.2 ∧ p.2 < m then p else (0, 1)
def collide_pairs.enc (m : Nat) (p : Nat × Nat) : Array Value := #[.int .i64 ((collide_pairs.cl m p).1 : Int), .int .i64 ((collide_pairs.cl m p).2 : Int)]
theorem collide_pairs.cl_lt {m : Nat} (h : 2 ≤ m) (p : Nat × Nat) : (collide_pairs.cl m p).1 < (collide_pairs.cl m p).2 ∧ (collide_pairs.cl m p).2 < m := by
  unfold collide_pairs.cl
  split
  · assumption
  · exact ⟨by decide, by show 1 < m; omega⟩
theorem collide_pairs.cl_of {m : Nat} (a b : Nat) (h : a < b) (h2 : b < m) : collide_pairs.cl m (a, b) = (a, b) := if_pos ⟨h, h2⟩
theorem collide_pairs.enc_of (m a b : Nat) (h : a < b) (h2 : b < m) : collide_pairs.enc m (a, b) = #[.int .i64 (a : Int), .int .i64 (b : Int)] := by
  unfold collide_pairs.enc
  rw [collide_pairs.cl_of a b h h2]
abbrev collide_pairs.mk (a b : Nat) : Nat × Nat := (a, b)
theorem collide_pairs.part_mem {a b n : Nat} {p : Nat × Nat} (h : p ∈ collide_pairs.part collide_pairs.mk a b) : p.1 = a ∧ a < p.2 ∧ p.2 < b := by
  unfold collide_pairs.part at h
  obtain ⟨i, hi, rfl⟩ := List.mem_map.1 h
  have := List.mem_range.1 hi
  exact ⟨rfl, by show a < a + 1 + i; omega, by show a + 1 + i < b; omega⟩
theorem collide_pairs.rows_mem {n : Nat} {p : Nat × Nat} : ∀ a, p ∈ collide_pairs.rows collide_pairs.mk n a → p.1 < p.2 ∧ p.2 < n
  | 0, h => by cases h
  | a + 1, h => by
    rcases List.mem_append.1 h with h | h
    · exact collide_pairs.rows_mem a h
    · have := collide_pairs.part_mem (n := n) h; omega
theorem collide_pairs.prs_mem {n : Nat} {p : Nat × Nat} (h : p ∈ collide_pairs.prs collide_pairs.mk n) : p.1 < p.2 ∧ p.2 < n := collide_pairs.rows_mem n h
theorem collide_pairs.mem_rows {n a b : Nat} : ∀ c, a < c → a < b → b < n → (a, b) ∈ collide_pairs.rows collide_pairs.mk n c
  | 0, h, _, _ => absurd h (by omega)
  | c + 1, h, h1, h2 => by
    refine List.mem_append.2 ?_
    rcases Nat.lt_or_ge a c with h3 | h3
    · exact .inl (collide_pairs.mem_rows c h3 h1 h2)
    · obtain rfl : a = c := by omega
      refine .inr (List.mem_map.2 ⟨b - (a + 1), List.mem_range.2 (by omega), ?_⟩)
      show (a, a + 1 + (b - (a + 1))) = (a, b)
      rw [show a + 1 + (b - (a + 1)) = b by omega]
theorem collide_pairs.mem_prs {n a b : Nat} (h1 : a < b) (h2 : b < n) : (a, b) ∈ collide_pairs.prs collide_pairs.mk n := collide_pairs.mem_rows n (by omega) h1 h2
theorem collide_pairs.two_of {n : Nat} {pre : Nat} (h : pre < (collide_pairs.prs collide_pairs.mk n).length) : 2 ≤ n := by
  obtain ⟨p, hp⟩ := List.exists_mem_of_length_pos (show 0 < (collide_pairs.prs collide_pairs.mk n).length by omega)
  have := collide_pairs.prs_mem hp
  omega
/-- What keeps a cell. -/
def collide_pairs.kp (B : Nat) (A C : World) : Prop := ∀ v, A.cell? ⟨B, 0, none⟩ = some v → C.cell? ⟨B, 0, none⟩ = some v
theorem collide_pairs.kp_t {B : Nat} {A C D : World} (h : collide_pairs.kp B A C) (k : collide_pairs.kp B C D) : collide_pairs.kp B A D := fun v hv => k v (h v hv)
theorem collide_pairs.kp_b {B : Nat} {w : World} (W : World) (l : Nat) (o o' : Obj) (_ : w.heap.size ≤ l) (h : W.heap[l]? = some o) (hc : o.isCells = false) (_ : o.isWalk = false) : collide_pairs.kp B W (W.putObj l o') := fun v hv =>
  cell_kept hv (grownBy_putObj' W l o') (fun r e => by cases e; exact ⟨_, h, hc⟩)
theorem collide_pairs.kp_below {B : Nat} {A C : World} (h : Below A.heap.size A C) : collide_pairs.kp B A C := fun v hv => cb h hv
theorem collide_pairs.cl_id (m : Nat) : ∀ l : List (Nat × Nat), (∀ p ∈ l, p.1 < p.2 ∧ p.2 < m) → l.map (collide_pairs.cl m) = l
  | [], _ => rfl
  | p :: l, h => by rw [List.map_cons, collide_pairs.cl_id m l (fun q hq => h q (List.mem_cons_of_mem _ hq)), show collide_pairs.cl m p = p from if_pos (h p (List.mem_cons_self ..))]
theorem collide_pairs.strict {P : Program} {c : Code} {K : Act → World → Prop} {Q : Exit → Act → World → Prop} {a : Act} {w : World} (h : c.wp P (Exit.then K (fun _ _ _ => False)) a w) : c.wp P (Exit.then K Q) a w :=
  wp_mono h (fun e a w h => by cases e <;> first | exact h | exact h.elim)
theorem collide_pairs.keeps_bel {w w1 : World} (hb : Below w.heap.size w w1) : KeepsOthers w w1 := ⟨hb.size, fun k o hk _ => (hb.block k (Array.getElem?_eq_some_iff.1 hk).1).trans hk⟩
theorem collide_pairs.kp_set {B g : Nat} (h : B ≠ g) (W : World) (v : Value) : collide_pairs.kp B W (W.setCell ⟨g, 0, none⟩ v) := fun u hu => (cell_far (p := ⟨g, 0, none⟩) (a := ⟨B, 0, none⟩) h v).trans hu
def collide_pairs.all {α β : Type} (f : α → Option β) : List α → Option (List β)
  | [] => some []
  | x :: l => (f x).bind fun y => (collide_pairs.all f l).bind fun ys => some (y :: ys)
theorem collide_pairs.all_mono {α β : Type} {f g : α → Option β} (h : ∀ x, LeO (f x) (g x)) : ∀ l, LeO (collide_pairs.all f l) (collide_pairs.all g l)
  | [] => LeO.refl _
  | x :: l => LeO.bind (h x) (fun _ => LeO.bind (collide_pairs.all_mono h l) (fun _ => LeO.refl _))
theorem collide_pairs.all_at {α β : Type} {f : α → Option β} : ∀ {l : List α} {r : List β}, collide_pairs.all f l = some r → ∀ x ∈ l, ∃ y, f x = some y
  | [], _, _, _, hx => by cases hx
  | x :: l, r, h, z, hz => by
    obtain ⟨y, hy, h⟩ := Option.bind_eq_some_iff.1 h
    obtain ⟨ys, hys, h⟩ := Option.bind_eq_some_iff.1 h
    rcases List.mem_cons.1 hz with rfl | hz
    · exact ⟨y, hy⟩
    · exact collide_pairs.all_at hys z hz
theorem collide_pairs.all_map {α β : Type} {f : α → Option β} {g : α → β} : ∀ {l : List α}, (∀ x ∈ l, f x = some (g x)) → collide_pairs.all f l = some (l.map g)
  | [], _ => rfl
  | x :: l, h => by
    unfold collide_pairs.all
    rw [h x (List.mem_cons_self ..), Option.bind_some, collide_pairs.all_map (fun z hz => h z (List.mem_cons_of_mem _ hz)), Option.bind_some]
    rfl
theorem collide_pairs.all_get {α β : Type} {f : α → Option β} {l : List α} {r : List β} (h : collide_pairs.all f l = some r) (z : β) : r = l.map (fun x => (f x).getD z) := by
  have := collide_pairs.all_map (g := fun x => (f x).getD z) (l := l) (f := f) (fun x hx => by obtain ⟨y, hy⟩ := collide_pairs.all_at h x hx; rw [hy]; rfl)
  rw [h] at this
  exact Option.some.inj this

end Go.Proofs.Yteflngoiebgdaaa.X
