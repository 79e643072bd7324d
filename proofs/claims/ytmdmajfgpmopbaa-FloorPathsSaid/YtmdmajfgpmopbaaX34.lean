import Derived.Test.YtmdmajfgpmopbaaX0
namespace Go.Proofs.Ytmdmajfgpmopbaa.X
open Go.RowKit YtmdmajfgpmopbaaW.PrintWords YtmdmajfgpmopbaaW.PrintLast YtmdmajfgpmopbaaW.PrintMore
attribute [local go_sem] max2_int min2_int max_two min_two max_three min_three max_four min_four
set_option linter.unusedVariables false
set_option linter.unusedSimpArgs false

/-! ### dancestudiolaw43_of: function 25 -/
def dancestudiolaw43_of.l0 : Nat → List (S53) → List (S53) → List Int → Option ((List (S53)) × List Int)
 | 0, _, _, _ => none
 | k + 1, x0, x257000, x257001 => if (wrap64 ((x257001.length : Int) + 1)) < (x0.length : Int) then (if x257001.length < 17592186044416 then (dancestudiolaw43_of.l0 k x0 x257000 (x257001 ++ [3])) else (none)) else (some (x257000, x257001))
def dancestudiolaw43_of.f (k : Nat) (l0 : List (S53)) : Option ((List (S53)) × List Int) := dancestudiolaw43_of.l0 k l0 l0 ([] : List Int)
theorem dancestudiolaw43_of.mono_l : ∀ k, (∀ y0 y1 y2, LeO (dancestudiolaw43_of.l0 k y0 y1 y2) (dancestudiolaw43_of.l0 (k + 1) y0 y1 y2))
 | 0 => fun _ _ _ r h => by simp [dancestudiolaw43_of.l0] at h
 | k + 1 => by
  have ih0 := dancestudiolaw43_of.mono_l k
  ·
   intro y0 y1 y2
   unfold dancestudiolaw43_of.l0
   repeat' first
   | (with_reducible exact ih0 _ _ _)
   | (with_reducible exact LeO.refl _)
   | (with_reducible exact LeO.none _)
   | (with_reducible refine LeO.ite ?_ ?_)
   | (with_reducible refine LeO.bind ?_ (fun _ => ?_))
   | exact ih0 _ _ _
   | exact LeO.none _
   | refine LeO.ite ?_ ?_
   | refine LeO.bind ?_ (fun _ => ?_)
theorem dancestudiolaw43_of.mono : ∀ a0 k, LeO (dancestudiolaw43_of.f k a0) (dancestudiolaw43_of.f (k + 1) a0) := by
 intro a0 k
 have ih0 := dancestudiolaw43_of.mono_l k
 unfold dancestudiolaw43_of.f
 repeat' first
   | (with_reducible exact ih0 _ _ _)
   | (with_reducible exact LeO.refl _)
   | (with_reducible exact LeO.none _)
   | (with_reducible refine LeO.ite ?_ ?_)
   | (with_reducible refine LeO.bind ?_ (fun _ => ?_))
   | exact ih0 _ _ _
   | exact LeO.none _
   | refine LeO.ite ?_ ?_
   | refine LeO.bind ?_ (fun _ => ?_)
set_option maxHeartbeats 8000000 in
set_option maxRecDepth 100000 in
theorem dancestudiolaw43_of.calls (k : Nat) (P0_ : Nat → Prop) (A0 : Option Addr) (c0 : Nat) (l0 : List (S53)) (r1 : List (S53)) (r2 : List Int) (w : World) (hs0 : Kd.V k53 53 w w.heap.size (fun k_ => P0_ k_) (.slice A0 l0.length c0) l0) (h : dancestudiolaw43_of.f k l0 = some (r1, r2)) :
  Calls Try.prog 25 #[.slice A0 l0.length c0] w fun e w' => ∃ v0_ v1_ : Value, e = .returned (.agg #[v0_, v1_]) ∧ Kd.V k53 53 w' w.heap.size (fun k_ => (P0_ k_ ∨ w.heap.size ≤ k_) ∧ some k_ ≠ (v1_ : Value).ownBlock) v0_ r1 ∧ Kd.R (Kd.int .i64) 3 w' w.heap.size (fun k_ => (w.heap.size ≤ k_)) v1_ r2 ∧ Below w.heap.size w w' := by
 have hu25 := Try.underlying25
 have HO0 := am (show Kd.V k53 53 w w.heap.size (fun k_ => (P0_ k_ ∨ w.heap.size ≤ k_)) (.slice A0 l0.length c0) l0 from Kd.V_mono hs0 (fun k_ hk => .inl hk))
 have HB := am (Below.refl w.heap.size w)
 have H : (dancestudiolaw43_of.l0 k l0 l0 ([] : List Int)) = some (r1, r2) := h
 clear h
 have H' := am H
 clear H
 go_enter Try.func25, Try.ntmps25
 go_wp2_with (first | ((with_reducible refine gate_dst (N := 2) rfl ?_); refine box_event yz (N := 2) yz (cs := #[.slice none 0 0, .slice none 0 0]) (t := 25) gz ?_; intro gb255 hg w2 hbox hb; replace HO0 := am (Kd.V_below (Kd.V_elderB (by (with_reducible repeat (first | apply Kd.V_alloc | apply Kd.V_drewN | apply Kd.V_drew)); exact HO0.out) gb255 (Nat.le_of_eq hg.symm)) hb); have BK255 := am (hbox); have GW255 := gwz (g := gb255) HB hg; have GE255 := GW255; replace HB := am (below_step bz hb); clear hb hbox hg) | ((with_reducible refine gate_dst (N := 3) rfl ?_); refine box_event yz (N := 3) yz (cs := #[.slice none 0 0, .slice none 0 0]) (t := 25) gz ?_; intro gb256 hg w3 hbox hb; replace HO0 := am (Kd.V_below (Kd.V_elderB (by (with_reducible repeat (first | apply Kd.V_alloc | apply Kd.V_drewN | apply Kd.V_drew)); exact HO0.out) gb256 (Nat.le_of_eq hg.symm)) hb); have BK256 := am (hbox); have GW256 := gwz (g := gb256) HB hg; have GE256 := GW256; replace HB := am (below_step bz hb); have NB255_256 := nlt (g' := gb256) BK255 hg; have NB256_255 := ngt (g' := gb256) BK255 hg; replace BK255 := am (blk_below (o := .cells #[.slice none 0 0, .slice none 0 0] 25 (0, 0)) (kz BK255) hb); clear hb hbox hg; have hnb4 := NB256_255.out; have hnc4 := NB255_256.out; obtain ⟨hcz5_0, hcz5_1, hfz5_0, hfz5_1⟩ := kc2 BK256.out))
 go_loopg [] k (fun kq w' => ∃ (x257001_1 : List Int) (u257001 : Value), Aside0 (dancestudiolaw43_of.l0 kq l0 l0 x257001_1 = some (r1, r2)) ∧ Aside0 (kq ≤ k) ∧ Aside0 (Kd.V k53 53 w' w.heap.size (fun k_ => (P0_ k_ ∨ w.heap.size ≤ k_) ∧ some k_ ≠ (u257001 : Value).ownBlock ∧ k_ ≠ gb255 ∧ k_ ≠ gb256) (.slice A0 l0.length c0) l0) ∧ Aside0 (Kd.V k53 53 w' w.heap.size (fun k_ => (P0_ k_ ∨ w.heap.size ≤ k_) ∧ some k_ ≠ (u257001 : Value).ownBlock ∧ k_ ≠ gb255 ∧ k_ ≠ gb256) (.slice A0 l0.length c0) l0) ∧ Aside0 (Kd.R (Kd.int .i64) 3 w' w.heap.size (fun k_ => (w.heap.size ≤ k_)) u257001 x257001_1) ∧ Aside0 (w'.heap[gb255]? = some (.cells #[(.slice none 0 0), (.slice none 0 0)] 25 (0, 0))) ∧ Aside0 (w'.heap[gb256]? = some (.cells #[(.slice A0 l0.length c0), u257001] 25 (0, 0))) ∧ Aside0 (Below w.heap.size w w'))
 case atStart => exact ⟨(([] : List Int)), (.slice none 0 0), H', ⟨Nat.le_refl _⟩, ⟨by (with_reducible repeat (first | apply Kd.V_alloc | apply Kd.V_drewN | apply Kd.V_drew)); exact Kd.V_mono (Kd.V_far (p := ⟨gb256, 1, none⟩) (Kd.V_far (p := ⟨gb256, 0, none⟩) (Kd.V_mono HO0.out (fun k_ hk => (⟨hk, hk.2⟩ : _ ∧ k_ ≠ gb256))) (fun _ hk => hk.2) (.slice A0 l0.length c0)) (fun _ hk => hk.2) (.slice none 0 0)) (fun _ hk => ⟨hk.1.1.1, ⟨(by simp [Value.ownBlock]), ⟨hk.1.1.2, hk.1.2⟩⟩⟩)⟩, ⟨by (with_reducible repeat (first | apply Kd.V_alloc | apply Kd.V_drewN | apply Kd.V_drew)); exact Kd.V_mono (Kd.V_far (p := ⟨gb256, 1, none⟩) (Kd.V_far (p := ⟨gb256, 0, none⟩) (Kd.V_mono HO0.out (fun k_ hk => (⟨hk, hk.2⟩ : _ ∧ k_ ≠ gb256))) (fun _ hk => hk.2) (.slice A0 l0.length c0)) (fun _ hk => hk.2) (.slice none 0 0)) (fun _ hk => ⟨hk.1.1.1, ⟨(by simp [Value.ownBlock]), ⟨hk.1.1.2, hk.1.2⟩⟩⟩)⟩, ⟨by first | exact Kd.R_nil _ _ _ _ _ | exact Kd.N_nil _ _ _ _ _ | exact Kd.V_nil _ _ _ _ _ | exact Kd.Q_nil _ _ _ _ _ | exact Kd.S_nil _ _ _ _ _⟩, ⟨by (with_reducible repeat first | apply kN | apply kD | apply kA); refine blk_far ?_ NB255_256.out _; (with_reducible repeat first | apply kN | apply kD | apply kA); refine blk_far ?_ NB255_256.out _; (with_reducible repeat first | apply kN | apply kD | apply kA); exact BK255.out⟩, ⟨by (with_reducible repeat first | apply kN | apply kD | apply kA); refine blk_put (cs := #[.slice A0 l0.length c0, .slice none 0 0]) ?_ 1 _ rfl; (with_reducible repeat first | apply kN | apply kD | apply kA); refine blk_put (cs := #[.slice none 0 0, .slice none 0 0]) ?_ 0 _ rfl; (with_reducible repeat first | apply kN | apply kD | apply kA); exact BK256.out⟩, ⟨bz⟩⟩
 case round =>
  clear H'
  try clear c2
  try clear p2
  try clear c4
  try clear hcz5_0
  try clear hcz5_1
  try clear hfz5_0
  try clear hfz5_1
  obtain ⟨x257001_1, u257001, HA, HK1, HO_0, HO_257000, HO_257001, BK255, BK256, HB⟩ := hrel
  cases gk with
  | zero => exact absurd HA.out (by simp [dancestudiolaw43_of.l0])
  | succ k1 =>
   have H := HA.out
   clear HA
   simp only [dancestudiolaw43_of.l0] at H
   by_cases c6 : (wrap64 ((x257001_1.length : Int) + 1)) < (l0.length : Int)
   ·
    rw [if_pos c6] at H
    have c6b0 := decide_eq_true c6
    clear c6
    by_cases c7 : x257001_1.length < 17592186044416; rotate_left
    · rw [if_neg c7] at H; exact absurd H (by simp)
    rw [if_pos c7] at H
    have LMc7 := am c7
    clear c7
    obtain ⟨y257, hy257⟩ : ∃ y_ : List Int, y_ = (x257001_1 ++ [3]) := ⟨_, rfl⟩
    replace H : (dancestudiolaw43_of.l0 k1 l0 l0 y257) = some (r1, r2) := by first | (rw [hy257]; with_reducible exact H) | (have H2_ := (Option.bind_some _ _).symm.trans H; rw [hy257]; with_reducible exact H2_) | (have H2_ := (Option.bind_some _ _).symm.trans H; with_reducible exact H2_) | with_reducible exact H | (rw [hy257]; exact H) | exact H
    have Ny257 := am hy257
    clear hy257
    have H' := am H
    clear H
    have hnb8 := NB256_255.out
    have hnc8 := NB255_256.out
    obtain ⟨hcz9_0, hcz9_1, hfz9_0, hfz9_1⟩ := kc2 BK256.out
    obtain ⟨Ao10, co10, eo10⟩ := Kd.R_slice HO_257001.out
    subst eo10
    go_wp2_with (first | ((with_reducible refine gate_builtin (b := .append) (xs := #[.tmp 14, .tmp 15]) rfl ?_); at_builtin; refine Kd.R_append (Kd.int .i64) (w0 := w) w.heap.size rfl (.tmp 14) (.tmp 15) 23 3 (.int .i64 0) 8 rfl Try.underlying23 info3 rfl (by decide) (by omega) (.slice Ao10 x257001_1.length co10) x257001_1 3 [.int .i64 3] (fun k_ => (w.heap.size ≤ k_)) (fun _ => False) rfl rfl ?aP (fun _ hk => hk.elim) ?aF ?aO ?aB ?aS ?aL ?_; (case aP => exact rfl); (case aB => exact bz); (case aF => exact (fun k_ hk => (Nat.le_trans (below_size bz) hk))); (case aO => exact (rz HO_257001)); (case aS => exact (below_size bz)); (case aL => have := LMc7.out; omega); intro v258 w11 ho hb hg hat; rw [← Ny257.out] at ho; replace HO_0 := am (Kd.V_afterv (ok := (fun k_ => (P0_ k_ ∨ w.heap.size ≤ k_) ∧ k_ ≠ gb255 ∧ k_ ≠ gb256)) (by (with_reducible repeat (first | apply Kd.V_alloc | apply Kd.V_drewN | apply Kd.V_drew)); exact Kd.V_mono HO_0.out (fun _ hk => ⟨⟨hk.1, ⟨hk.2.2.1, hk.2.2.2⟩⟩, hk.2.1⟩)) hg hat); replace HO_257000 := am (Kd.V_afterv (ok := (fun k_ => (P0_ k_ ∨ w.heap.size ≤ k_) ∧ k_ ≠ gb255 ∧ k_ ≠ gb256)) (by (with_reducible repeat (first | apply Kd.V_alloc | apply Kd.V_drewN | apply Kd.V_drew)); exact Kd.V_mono HO_257000.out (fun _ hk => ⟨⟨hk.1, ⟨hk.2.2.1, hk.2.2.2⟩⟩, hk.2.1⟩)) hg hat); replace BK255 := am (blk_grown (g := gb255) (o := .cells #[.slice none 0 0, .slice none 0 0] 25 (0, 0)) (kz BK255) hg (Kd.R_ne HO_257001.out BK255.out (by decide))); replace BK256 := am (blk_grown (g := gb256) (o := .cells #[.slice A0 l0.length c0, .slice Ao10 x257001_1.length co10] 25 (0, 0)) (kz BK256) hg (Kd.R_ne HO_257001.out BK256.out (by decide))); replace HB := am (hb); have HO259 := am (ho); clear HO_257001; clear ho hb hg hat; obtain ⟨Ao12, co12, eo12⟩ := Kd.R_slice HO259.out; subst eo12; obtain ⟨hcz13_0, hcz13_1, hfz13_0, hfz13_1⟩ := kc2 BK256.out))
    go_roundg k1
    case measure => have := HK1.out; omega
    case rel => exact ⟨(y257), (.slice Ao12 y257.length co12), H', ⟨by have := HK1.out; omega⟩, ⟨by (with_reducible repeat (first | apply Kd.V_alloc | apply Kd.V_drewN | apply Kd.V_drew)); exact Kd.V_mono (Kd.V_far (p := ⟨gb256, 1, none⟩) (Kd.V_mono HO_0.out (fun k_ hk => (⟨hk, hk.1.2.2⟩ : _ ∧ k_ ≠ gb256))) (fun _ hk => hk.2) (.slice Ao12 y257.length co12)) (fun _ hk => ⟨hk.1.1.1, ⟨hk.1.2, ⟨hk.1.1.2.1, hk.1.1.2.2⟩⟩⟩)⟩, ⟨by (with_reducible repeat (first | apply Kd.V_alloc | apply Kd.V_drewN | apply Kd.V_drew)); exact Kd.V_mono (Kd.V_far (p := ⟨gb256, 1, none⟩) (Kd.V_mono HO_257000.out (fun k_ hk => (⟨hk, hk.1.2.2⟩ : _ ∧ k_ ≠ gb256))) (fun _ hk => hk.2) (.slice Ao12 y257.length co12)) (fun _ hk => ⟨hk.1.1.1, ⟨hk.1.2, ⟨hk.1.1.2.1, hk.1.1.2.2⟩⟩⟩)⟩, ⟨by (with_reducible repeat first | apply rA | apply rN | apply rD); exact Kd.R_mono (Kd.R_far (p := ⟨gb256, 1, none⟩) (Kd.R_types HO259.out BK256.out (by decide)) (fun _ hk => hk.2) (.slice Ao12 y257.length co12)) (fun _ hk => hk.1)⟩, ⟨by (with_reducible repeat first | apply kN | apply kD | apply kA); refine blk_far ?_ NB255_256.out _; (with_reducible repeat first | apply kN | apply kD | apply kA); exact BK255.out⟩, ⟨by (with_reducible repeat first | apply kN | apply kD | apply kA); refine blk_put (cs := #[.slice A0 l0.length c0, .slice Ao10 x257001_1.length co10]) ?_ 1 _ rfl; (with_reducible repeat first | apply kN | apply kD | apply kA); exact BK256.out⟩, ⟨bz⟩⟩
   ·
    rw [if_neg c6] at H
    have c6b0 := decide_eq_false c6
    clear c6
    simp only [Option.some.injEq, Prod.mk.injEq] at H
    obtain ⟨rfl, rfl⟩ := H
    have hnb14 := NB256_255.out
    have hnc14 := NB255_256.out
    obtain ⟨hcz15_0, hcz15_1, hfz15_0, hfz15_1⟩ := kc2 BK256.out
    obtain ⟨Ao16, co16, eo16⟩ := Kd.R_slice HO_257001.out
    subst eo16
    obtain ⟨hcz17_0, hcz17_1, hfz17_0, hfz17_1⟩ := kc2 BK255.out
    go_wp2
    refine bodyPost_ret (results_cell_row rfl _ _ gb255 25 #[.slice A0 l0.length c0, .slice Ao16 x257001_1.length co16] (0, 0) _ rfl (by (with_reducible repeat first | apply kN | apply kD | apply kA); refine blk_put (cs := #[.slice A0 l0.length c0, .slice none 0 0]) ?_ 1 _ rfl; (with_reducible repeat first | apply kN | apply kD | apply kA); refine blk_put (cs := #[.slice none 0 0, .slice none 0 0]) ?_ 0 _ rfl; (with_reducible repeat first | apply kN | apply kD | apply kA); exact BK255.out) Try.underlying25 rfl qz) rfl ?_
    exact ⟨_, _, ez, by (with_reducible repeat (first | apply Kd.V_alloc | apply Kd.V_drewN | apply Kd.V_drew)); exact Kd.V_mono (Kd.V_far (p := ⟨gb255, 1, none⟩) (Kd.V_far (p := ⟨gb255, 0, none⟩) (Kd.V_mono HO_257000.out (fun k_ hk => (⟨hk, hk.2.2.1⟩ : _ ∧ k_ ≠ gb255))) (fun _ hk => hk.2) (.slice A0 l0.length c0)) (fun _ hk => hk.2) (.slice Ao16 x257001_1.length co16)) (fun _ hk => ⟨hk.1.1, hk.1.2.1⟩), by (with_reducible repeat first | apply rA | apply rN | apply rD); exact Kd.R_mono (Kd.R_far (p := ⟨gb255, 1, none⟩) (Kd.R_far (p := ⟨gb255, 0, none⟩) (Kd.R_types HO_257001.out BK255.out (by decide)) (fun _ hk => hk.2) (.slice A0 l0.length c0)) (fun _ hk => hk.2) (.slice Ao16 x257001_1.length co16)) (fun _ hk => hk.1), bz⟩

end Go.Proofs.Ytmdmajfgpmopbaa.X
