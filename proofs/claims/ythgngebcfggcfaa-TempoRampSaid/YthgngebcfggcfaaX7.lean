-- written by xprint.py, an own overlay over the kit's print; not trusted: Lean checks it
import Derived.Test.YthgngebcfggcfaaX0
import Derived.Test.YthgngebcfggcfaaX3
import Derived.Test.YthgngebcfggcfaaX4
import Derived.Test.YthgngebcfggcfaaX5
namespace Go.Proofs.Ythgngebcfggcfaa.X
open Go.RowKit Go.Proofs.YthgngebcfggcfaaW.PrintWords Go.Proofs.YthgngebcfggcfaaW.PrintLast Go.Proofs.YthgngebcfggcfaaW.PrintMore
attribute [local go_sem] max2_int min2_int max_two min_two max_three min_three max_four min_four   -- for this text's walks alone
set_option linter.unusedVariables false
set_option linter.unusedSimpArgs false

/-! ### tempo_Tick: function 15 -/
def tempo_Tick.l0 : Nat → List S38 → Int → Int → Int → Option Int
  | 0, _, _, _, _ => none
  | k + 1, l, x, lo, hi => if hi - lo > 1 then ((tempo_moment.f k l ((lo + hi) / 2)).bind fun t => (if t ≤ x then (tempo_Tick.l0 k l x ((lo + hi) / 2) hi) else (tempo_Tick.l0 k l x lo ((lo + hi) / 2)))) else (some lo)
def tempo_Tick.f (k : Nat) (l0 : List S38) (a1 : Int) : Option (Int × Int) := (tempo_Check.f k l0).bind fun t => (if t = 0 then ((tempo_moment.f k l0 8192).bind fun m => ((tempo_within.f a1 0 m).bind fun b => (if b = true then ((tempo_Tick.l0 k l0 a1 0 8193).bind fun r => (some (r, 0))) else (some (0, 1))))) else (some (0, t)))
theorem tempo_Tick.mono_l : ∀ k, (∀ y0 y1 y2 y3, LeO (tempo_Tick.l0 k y0 y1 y2 y3) (tempo_Tick.l0 (k + 1) y0 y1 y2 y3))
  | 0 => fun _ _ _ _ r h => by simp [tempo_Tick.l0] at h
  | k + 1 => by
    have ih0 := tempo_Tick.mono_l k
    intro y0 y1 y2 y3
    unfold tempo_Tick.l0
    repeat' first
      | (with_reducible exact ih0 _ _ _ _)
      | (with_reducible exact tempo_moment.mono _ _ _)
      | (with_reducible exact LeO.refl _)
      | (with_reducible refine LeO.ite ?_ ?_)
      | (with_reducible refine LeO.bind ?_ (fun _ => ?_))
theorem tempo_Tick.mono : ∀ a0 a1 k, LeO (tempo_Tick.f k a0 a1) (tempo_Tick.f (k + 1) a0 a1) := by
  intro a0 a1 k
  have ih0 := tempo_Tick.mono_l k
  unfold tempo_Tick.f
  repeat' first
    | (with_reducible exact ih0 _ _ _ _)
    | (with_reducible exact tempo_Check.mono _ _)
    | (with_reducible exact tempo_moment.mono _ _ _)
    | (with_reducible exact LeO.refl _)
    | (with_reducible refine LeO.ite ?_ ?_)
    | (with_reducible refine LeO.bind ?_ (fun _ => ?_))
set_option maxHeartbeats 8000000 in
set_option maxRecDepth 100000 in
/-- The closure: the moment of a tick. -/
theorem tempo_Tick.clo (k : Nat) (A0 : Option Addr) (c0 : Nat) (l0 : List S38) (a1 : Int) (r : Int) (B : Nat) (w : World) (hB : w.cell? ⟨B, 0, none⟩ = some (.slice A0 l0.length c0)) (hr0 : Kd.C k38 w A0 l0.length l0) (hc0 : l0.length ≤ c0) (h : tempo_moment.f k l0 a1 = some r) :
    Calls Try.prog 30 #[.int .i64 a1, .pointer (some ⟨B, 0, none⟩)] w fun e w' => e = .returned (.int .i64 r) ∧ Below w.heap.size w w' := by
  have H := Aside0.mk h
  have HR := Aside0.mk hr0
  have HC := Aside0.mk hc0
  clear h hr0 hc0
  go_enter Try.func30, Try.ntmps30
  go_wp2_with ((go_at_call 28; (with_reducible refine (tempo_moment.calls k A0 c0 l0 a1 r _ HR.out HC.out H.out).mono ?_); rintro e w' ⟨rfl, hb⟩))
  go_ret
  exact ⟨rfl, hb⟩
set_option maxHeartbeats 8000000 in
set_option maxRecDepth 100000 in
/-- The search. -/
theorem tempo_Tick.last (k : Nat) (A0 : Option Addr) (c0 : Nat) (l0 : List S38) (x : Int) (r : Int) (B : Nat) (w : World) (hB : w.cell? ⟨B, 0, none⟩ = some (.slice A0 l0.length c0)) (hr0 : Kd.C k38 w A0 l0.length l0) (hc0 : l0.length ≤ c0) (h : tempo_Tick.l0 k l0 x 0 8193 = some r) :
    Calls Try.prog 29 #[.int .i64 8193, .func (.func 30) #[] #[.pointer (some ⟨B, 0, none⟩)], .int .i64 x] w fun e w' => e = .returned (.int .i64 r) ∧ Below w.heap.size w w' := by
  have H' := Aside0.mk h
  have HR := Aside0.mk hr0
  have HC := Aside0.mk hc0
  have HBx := Aside0.mk hB
  clear h hr0 hc0 hB
  go_enter Try.func29, Try.ntmps29
  go_wp2
  go_loopg [7, 8] k (fun kq v7 v8 w' => ∃ (lo : Int) (hi : Int), v7 = .int .i64 lo ∧ v8 = .int .i64 hi ∧ 0 ≤ lo ∧ lo ≤ hi ∧ hi ≤ 8193 ∧ Aside0 (tempo_Tick.l0 kq l0 x lo hi = some r) ∧ Aside0 (kq ≤ k) ∧ Aside0 (Below w.heap.size w w'))
  case atStart => exact ⟨0, 8193, rfl, rfl, by omega, by omega, by omega, H', ⟨Nat.le_refl _⟩, ⟨Below.refl _ _⟩⟩
  case round =>
    clear H'
    obtain ⟨lo, hi, rfl, rfl, h0, h1, h2, HA, HK1, HB⟩ := hrel
    cases gk with
    | zero => exact absurd HA.out (by simp [tempo_Tick.l0])
    | succ k1 =>
      have H := HA.out
      clear HA
      simp only [tempo_Tick.l0] at H
      by_cases c : hi - lo > 1
      · rw [if_pos c] at H
        cases hm : tempo_moment.f k1 l0 ((lo + hi) / 2) with
        | none => rw [hm] at H; exact absurd H (by simp)
        | some t =>
          rw [hm, Option.bind_some] at H
          have HM := Aside0.mk hm
          clear hm
          have g1 : lo < (lo + hi) / 2 := by omega
          have g2 : (lo + hi) / 2 < hi := by omega
          by_cases c2 : t ≤ x
          · rw [if_pos c2] at H
            have HA := Aside0.mk H
            clear H
            go_wp2_with ((go_at_call 30; (with_reducible refine (tempo_Tick.clo k1 A0 c0 l0 _ t B _ ((HB.out.cell (World.block_lt_of_cell? w _ HBx.out)).trans HBx.out) (Kd.C_below HR.out HB.out) HC.out HM.out).mono ?_); rintro e w2 ⟨rfl, hb2⟩; have HB2 := Aside0.mk (below_step HB.out hb2); clear hb2))
            go_roundg k1
            case measure => have := HK1.out; omega
            case rel => exact ⟨_, hi, rfl, rfl, by omega, by omega, by omega, HA, ⟨by have := HK1.out; omega⟩, HB2⟩
          · rw [if_neg c2] at H
            have HA := Aside0.mk H
            clear H
            go_wp2_with ((go_at_call 30; (with_reducible refine (tempo_Tick.clo k1 A0 c0 l0 _ t B _ ((HB.out.cell (World.block_lt_of_cell? w _ HBx.out)).trans HBx.out) (Kd.C_below HR.out HB.out) HC.out HM.out).mono ?_); rintro e w2 ⟨rfl, hb2⟩; have HB2 := Aside0.mk (below_step HB.out hb2); clear hb2))
            go_roundg k1
            case measure => have := HK1.out; omega
            case rel => exact ⟨lo, _, rfl, rfl, by omega, by omega, by omega, HA, ⟨by have := HK1.out; omega⟩, HB2⟩
      · rw [if_neg c] at H
        obtain rfl := Option.some.inj H
        go_wp2
        go_ret
        exact ⟨rfl, HB.out⟩
set_option maxHeartbeats 8000000 in
set_option maxRecDepth 100000 in
theorem tempo_Tick.calls (k : Nat) (A0 : Option Addr) (c0 : Nat) (l0 : List S38) (a1 : Int) (r1 : Int) (r2 : Int) (w : World) (hr0 : Kd.C k38 w A0 l0.length l0) (hc0 : l0.length ≤ c0) (h : tempo_Tick.f k l0 a1 = some (r1, r2)) :
    Calls Try.prog 15 #[.slice A0 l0.length c0, .int .i64 a1] w fun e w' => e = .returned (.tuple #[.int .i64 r1, .int .i64 r2]) ∧ Below w.heap.size w w' := by
  have HR := Aside0.mk hr0
  have HC := Aside0.mk hc0
  have HB := Aside0.mk (Below.refl w.heap.size w)
  clear hr0 hc0
  have hmf : ∀ (fn : Fn) (first cap : Array Value) (w : World), (Instr.makeFunc fn first cap).run Try.prog w = .ok (.func fn first cap) w := fun _ _ _ _ => rfl
  unfold tempo_Tick.f at h
  cases hck : tempo_Check.f k l0 with
  | none => rw [hck] at h; exact absurd h (by simp)
  | some t =>
    rw [hck, Option.bind_some] at h
    have HCK := Aside0.mk hck
    clear hck
    by_cases c0_ : t = 0
    · subst c0_
      rw [if_pos rfl] at h
      cases hm : tempo_moment.f k l0 8192 with
      | none => rw [hm] at h; exact absurd h (by simp)
      | some m =>
        rw [hm, Option.bind_some] at h
        have HM := Aside0.mk hm
        clear hm
        cases hw : tempo_within.f a1 0 m with
        | none => rw [hw] at h; exact absurd h (by simp)
        | some b =>
          rw [hw, Option.bind_some] at h
          have HW := Aside0.mk hw
          clear hw
          cases b with
          | true =>
            rw [if_pos rfl] at h
            cases hl : tempo_Tick.l0 k l0 a1 0 8193 with
            | none => rw [hl] at h; exact absurd h (by simp)
            | some q =>
              rw [hl, Option.bind_some] at h
              have HL := Aside0.mk hl
              clear hl
              obtain ⟨rfl, rfl⟩ := Prod.mk.inj (Option.some.inj h)
              clear h
              go_enter Try.func15, Try.ntmps15
              go_wp2_with (first | ((with_reducible refine gate_dst (N := 2) rfl ?_); refine box_event ?hg (N := 2) ?hd (cs := #[.slice A0 l0.length c0]) (t := 22) ?hr ?_; (case hd => rfl); (case hg => rfl); (case hr => first | (go_simp; done) | (go_simp; rfl)); intro gb hgb w1 hbox hb; have HB1 := Aside0.mk (below_step HB.out hb); have hz1 : w1.cell? ⟨gb, 0, none⟩ = some (.slice A0 l0.length c0) := (blk_cell hbox 0).trans rfl; clear hb hbox hgb) | (go_at_call 12; (with_reducible refine (tempo_Check.calls k A0 c0 l0 _ _ (Kd.C_below HR.out HB1.out) HC.out HCK.out).mono ?_); rintro e w2 ⟨rfl, hb⟩; have HB2 := Aside0.mk (below_step HB1.out hb); have hz2 := (hb.cell (World.block_lt_of_cell? _ _ hz1)).trans hz1; clear hb hz1) | (go_at_call 28; (with_reducible refine (tempo_moment.calls k A0 c0 l0 8192 _ _ (Kd.C_below HR.out HB2.out) HC.out HM.out).mono ?_); rintro e w3 ⟨rfl, hb⟩; have HB3 := Aside0.mk (below_step HB2.out hb); have hz3 := (hb.cell (World.block_lt_of_cell? _ _ hz2)).trans hz2; clear hb hz2) | (go_at_call 27; (with_reducible refine (tempo_within.calls _ _ _ _ _ HW.out).mono ?_); rintro e w4 ⟨rfl, hd⟩; have HB4 := Aside0.mk (below_step HB3.out hd.below); have hz4 := (hd.below.cell (World.block_lt_of_cell? _ _ hz3)).trans hz3; clear hd hz3) | (go_at_call 29; (with_reducible refine (tempo_Tick.last k A0 c0 l0 a1 _ _ _ hz4 (Kd.C_below HR.out HB4.out) HC.out HL.out).mono ?_); rintro e w5 ⟨rfl, hb⟩; have HB5 := Aside0.mk (below_step HB4.out hb); clear hb))
              go_ret2
              exact ⟨rfl, HB5.out⟩
          | false =>
            rw [if_neg (by simp)] at h
            obtain ⟨rfl, rfl⟩ := Prod.mk.inj (Option.some.inj h)
            clear h
            go_enter Try.func15, Try.ntmps15
            go_wp2_with (first | ((with_reducible refine gate_dst (N := 2) rfl ?_); refine box_event ?hg (N := 2) ?hd (cs := #[.slice A0 l0.length c0]) (t := 22) ?hr ?_; (case hd => rfl); (case hg => rfl); (case hr => first | (go_simp; done) | (go_simp; rfl)); intro gb hgb w1 hbox hb; have HB1 := Aside0.mk (below_step HB.out hb); have hz1 : w1.cell? ⟨gb, 0, none⟩ = some (.slice A0 l0.length c0) := (blk_cell hbox 0).trans rfl; clear hb hbox hgb) | (go_at_call 12; (with_reducible refine (tempo_Check.calls k A0 c0 l0 _ _ (Kd.C_below HR.out HB1.out) HC.out HCK.out).mono ?_); rintro e w2 ⟨rfl, hb⟩; have HB2 := Aside0.mk (below_step HB1.out hb); have hz2 := (hb.cell (World.block_lt_of_cell? _ _ hz1)).trans hz1; clear hb hz1) | (go_at_call 28; (with_reducible refine (tempo_moment.calls k A0 c0 l0 8192 _ _ (Kd.C_below HR.out HB2.out) HC.out HM.out).mono ?_); rintro e w3 ⟨rfl, hb⟩; have HB3 := Aside0.mk (below_step HB2.out hb); have hz3 := (hb.cell (World.block_lt_of_cell? _ _ hz2)).trans hz2; clear hb hz2) | (go_at_call 27; (with_reducible refine (tempo_within.calls _ _ _ _ _ HW.out).mono ?_); rintro e w4 ⟨rfl, hd⟩; have HB4 := Aside0.mk (below_step HB3.out hd.below); have hz4 := (hd.below.cell (World.block_lt_of_cell? _ _ hz3)).trans hz3; clear hd hz3))
            go_ret2
            exact ⟨rfl, HB4.out⟩
    · rw [if_neg c0_] at h
      have hne : (t == 0) = false := by simpa using c0_
      have hne2 : (t != 0) = true := by simpa using c0_
      obtain ⟨rfl, rfl⟩ := Prod.mk.inj (Option.some.inj h)
      clear h
      go_enter Try.func15, Try.ntmps15
      go_wp2_with (first | ((with_reducible refine gate_dst (N := 2) rfl ?_); refine box_event ?hg (N := 2) ?hd (cs := #[.slice A0 l0.length c0]) (t := 22) ?hr ?_; (case hd => rfl); (case hg => rfl); (case hr => first | (go_simp; done) | (go_simp; rfl)); intro gb hgb w1 hbox hb; have HB1 := Aside0.mk (below_step HB.out hb); have hz1 : w1.cell? ⟨gb, 0, none⟩ = some (.slice A0 l0.length c0) := (blk_cell hbox 0).trans rfl; clear hb hbox hgb) | (go_at_call 12; (with_reducible refine (tempo_Check.calls k A0 c0 l0 _ _ (Kd.C_below HR.out HB1.out) HC.out HCK.out).mono ?_); rintro e w2 ⟨rfl, hb⟩; have HB2 := Aside0.mk (below_step HB1.out hb); have hz2 := (hb.cell (World.block_lt_of_cell? _ _ hz1)).trans hz1; clear hb hz1))
      go_ret2
      exact ⟨rfl, HB2.out⟩

end Go.Proofs.Ythgngebcfggcfaa.X
