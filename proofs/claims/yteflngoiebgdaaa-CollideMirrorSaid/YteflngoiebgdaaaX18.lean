import Derived.Test.YteflngoiebgdaaaX0
import Derived.Test.YteflngoiebgdaaaX17
namespace Go.Proofs.Yteflngoiebgdaaa.X
open Go.RowKit YteflngoiebgdaaaW.PrintWords YteflngoiebgdaaaW.PrintLast YteflngoiebgdaaaW.PrintMore
attribute [local go_sem] max2_int min2_int max_two min_two max_three min_three max_four min_four
set_option linter.unusedVariables false
set_option linter.unusedSimpArgs false

/-! ### num_times: function 86 -/
def num_times.j0 : Nat → Int → Int → Int → Int → Bool → Option (Int × Int × Int)
 | 0, _, _, _, _, _ => none
 | k + 1, x0, x1, x5, x6, x19 => if x19 = true then (some (0, 0, 0)) else (if ((decide (x0 < 0)) != (decide (x1 < 0))) = true then (some ((-1), wrap64 ((wrap64 ((wrap64 ((wrap64 (Int.tdiv x5 33554432)) * (wrap64 (Int.tdiv x6 33554432)))) + (wrap64 (Int.tdiv (wrap64 ((wrap64 ((wrap64 (Int.tdiv x5 33554432)) * (Int.tmod x6 33554432))) + (wrap64 ((Int.tmod x5 33554432) * (wrap64 (Int.tdiv x6 33554432)))))) 33554432)))) + (wrap64 (Int.tdiv (wrap64 ((wrap64 ((Int.tmod x5 33554432) * (Int.tmod x6 33554432))) + (wrap64 ((Int.tmod (wrap64 ((wrap64 ((wrap64 (Int.tdiv x5 33554432)) * (Int.tmod x6 33554432))) + (wrap64 ((Int.tmod x5 33554432) * (wrap64 (Int.tdiv x6 33554432)))))) 33554432) * 33554432)))) 1125899906842624))), Int.tmod (wrap64 ((wrap64 ((Int.tmod x5 33554432) * (Int.tmod x6 33554432))) + (wrap64 ((Int.tmod (wrap64 ((wrap64 ((wrap64 (Int.tdiv x5 33554432)) * (Int.tmod x6 33554432))) + (wrap64 ((Int.tmod x5 33554432) * (wrap64 (Int.tdiv x6 33554432)))))) 33554432) * 33554432)))) 1125899906842624)) else (some (1, wrap64 ((wrap64 ((wrap64 ((wrap64 (Int.tdiv x5 33554432)) * (wrap64 (Int.tdiv x6 33554432)))) + (wrap64 (Int.tdiv (wrap64 ((wrap64 ((wrap64 (Int.tdiv x5 33554432)) * (Int.tmod x6 33554432))) + (wrap64 ((Int.tmod x5 33554432) * (wrap64 (Int.tdiv x6 33554432)))))) 33554432)))) + (wrap64 (Int.tdiv (wrap64 ((wrap64 ((Int.tmod x5 33554432) * (Int.tmod x6 33554432))) + (wrap64 ((Int.tmod (wrap64 ((wrap64 ((wrap64 (Int.tdiv x5 33554432)) * (Int.tmod x6 33554432))) + (wrap64 ((Int.tmod x5 33554432) * (wrap64 (Int.tdiv x6 33554432)))))) 33554432) * 33554432)))) 1125899906842624))), Int.tmod (wrap64 ((wrap64 ((Int.tmod x5 33554432) * (Int.tmod x6 33554432))) + (wrap64 ((Int.tmod (wrap64 ((wrap64 ((wrap64 (Int.tdiv x5 33554432)) * (Int.tmod x6 33554432))) + (wrap64 ((Int.tmod x5 33554432) * (wrap64 (Int.tdiv x6 33554432)))))) 33554432) * 33554432)))) 1125899906842624)))
def num_times.f (k : Nat) (a0 a1 : Int) : Option (Int × Int × Int) := (num_abs.f a0).bind fun t136 => ((num_abs.f a1).bind fun t137 => (if t136 = 0 then (num_times.j0 k a0 a1 t136 t137 true) else (num_times.j0 k a0 a1 t136 t137 (t137 == 0))))
theorem num_times.mono_l : ∀ k, (∀ y0 y1 y2 y3 y4, LeO (num_times.j0 k y0 y1 y2 y3 y4) (num_times.j0 (k + 1) y0 y1 y2 y3 y4))
 | 0 => fun _ _ _ _ _ r h => by simp [num_times.j0] at h
 | k + 1 => by
  have ih0 := num_times.mono_l k
  ·
   intro y0 y1 y2 y3 y4
   unfold num_times.j0
   repeat' first
   | (with_reducible exact ih0 _ _ _ _ _)
   | (with_reducible exact LeO.refl _)
   | (with_reducible exact LeO.none _)
   | (with_reducible refine LeO.ite ?_ ?_)
   | (with_reducible refine LeO.bind ?_ (fun _ => ?_))
   | exact ih0 _ _ _ _ _
   | exact LeO.none _
   | refine LeO.ite ?_ ?_
   | refine LeO.bind ?_ (fun _ => ?_)
theorem num_times.mono : ∀ a0 a1 k, LeO (num_times.f k a0 a1) (num_times.f (k + 1) a0 a1) := by
 intro a0 a1 k
 have ih0 := num_times.mono_l k
 unfold num_times.f
 repeat' first
   | (with_reducible exact ih0 _ _ _ _ _)
   | (with_reducible exact LeO.refl _)
   | (with_reducible exact LeO.none _)
   | (with_reducible refine LeO.ite ?_ ?_)
   | (with_reducible refine LeO.bind ?_ (fun _ => ?_))
   | exact ih0 _ _ _ _ _
   | exact LeO.none _
   | refine LeO.ite ?_ ?_
   | refine LeO.bind ?_ (fun _ => ?_)
set_option maxHeartbeats 8000000 in
set_option maxRecDepth 100000 in
theorem num_times.calls (k : Nat) (a0 a1 r1 r2 r3 : Int) (w : World) (h : num_times.f k a0 a1 = some (r1, r2, r3)) :
  Calls Try.prog 86 #[.int .i64 a0, .int .i64 a1] w fun e w' => e = .returned (.agg #[.int .i64 r1, .int .i64 r2, .int .i64 r3]) ∧ Below w.heap.size w w' := by
 have hu111 := Try.underlying111
 have HB := am (Below.refl w.heap.size w)
 have H : ((num_abs.f a0).bind fun t136 => ((num_abs.f a1).bind fun t137 => (if t136 = 0 then (num_times.j0 k a0 a1 t136 t137 true) else (num_times.j0 k a0 a1 t136 t137 (t137 == 0))))) = some (r1, r2, r3) := h
 clear h
 replace H := Option.bind_eq_some_iff.mp H
 obtain ⟨t136, A30, H⟩ := H
 replace H : ((num_abs.f a1).bind fun t137 => (if t136 = 0 then (num_times.j0 k a0 a1 t136 t137 true) else (num_times.j0 k a0 a1 t136 t137 (t137 == 0)))) = some (r1, r2, r3) := H
 have A3 := am A30
 clear A30
 replace H := Option.bind_eq_some_iff.mp H
 obtain ⟨t137, A40, H⟩ := H
 replace H : (if t136 = 0 then (num_times.j0 k a0 a1 t136 t137 true) else (num_times.j0 k a0 a1 t136 t137 (t137 == 0))) = some (r1, r2, r3) := H
 have A4 := am A40
 clear A40
 have HC5 := am H
 clear H
 go_enter Try.func86, Try.ntmps86
 go_upto_region 2 with (first | ((with_reducible refine gate_dst (N := 4) rfl ?_); refine box_event yz (N := 4) yz (cs := #[.int .i64 0, .int .i64 0, .int .i64 0]) (t := 111) gz ?_; intro gb135 hg w6 hbox hb; have BK135 := am (hbox); have GW135 := gwz (g := gb135) HB hg; have GE135 := GW135; replace HB := am (below_step bz hb); clear hb hbox hg) | ((with_reducible refine gate_callee (f := 88) rfl ?_); refine goesL_ (some 11) rfl rfl Try.func88 qz rfl #[.int .i64 a0] rfl mz ?_; (with_reducible refine (num_abs.calls a0 t136 _ A3.out).mono ?_); rintro e w7 ⟨rfl, hb⟩; refine ⟨_, rfl, ?_⟩; replace BK135 := am (blk_below (o := .cells #[.int .i64 0, .int .i64 0, .int .i64 0] 111 (0, 0)) (kz BK135) hb); replace HB := am (below_step bz hb); (try clear hb); (try clear hb2); (try clear hk); (try clear hi)) | ((with_reducible refine gate_callee (f := 88) rfl ?_); refine goesL_ (some 13) rfl rfl Try.func88 qz rfl #[.int .i64 a1] rfl mz ?_; (with_reducible refine (num_abs.calls a1 t137 _ A4.out).mono ?_); rintro e w8 ⟨rfl, hb⟩; refine ⟨_, rfl, ?_⟩; replace BK135 := am (blk_below (o := .cells #[.int .i64 0, .int .i64 0, .int .i64 0] 111 (0, 0)) (kz BK135) hb); replace HB := am (below_step bz hb); (try clear hb); (try clear hb2); (try clear hk); (try clear hi)))
 (try simp only [Act.put, List.setIfInBounds_toArray, List.set_cons_zero, List.set_cons_succ])
 go_cut [19] (fun v19 wc => ∃ (kq : Nat) (x19_4 : Bool), v19 = .bool x19_4 ∧ Aside0 (num_times.j0 kq a0 a1 t136 t137 x19_4 = some (r1, r2, r3)) ∧ Aside0 (kq ≤ k) ∧ Aside0 (wc.heap[gb135]? = some (.cells #[.int .i64 0, .int .i64 0, .int .i64 0] 111 (0, 0))) ∧ Aside0 (Below w.heap.size w wc))
 case first =>
  have H := HC5.out
  clear HC5
  by_cases c9 : t136 = 0
  ·
   rw [if_pos c9] at H
   have c9b0 : (t136 == 0) = true := beq_iff_eq.mpr c9
   have c9b1 : (t136 != 0) = false := bne_eq_false_iff_eq.mpr c9
   clear c9
   (first | rw [c9b0] | (simp only [i64_w, i32_w]; rw [c9b0]) | skip)
   have H' := am H
   clear H
   go_wp2
   go_meet
   case rel => exact ⟨_, (true), sz, H', ⟨by first | omega | exact Nat.le_refl _⟩, ⟨kz BK135⟩, ⟨bz⟩⟩
  ·
   rw [if_neg c9] at H
   have c9b0 : (t136 == 0) = false := beq_eq_false_iff_ne.mpr c9
   have c9b1 : (t136 != 0) = true := bne_iff_ne.mpr c9
   (first | rw [c9b0] | (simp only [i64_w, i32_w]; rw [c9b0]) | skip)
   have H' := am H
   clear H
   go_wp2
   go_meet
   case rel => exact ⟨_, ((t137 == 0)), sz, H', ⟨by first | omega | exact Nat.le_refl _⟩, ⟨kz BK135⟩, ⟨bz⟩⟩
 case rest =>
  clear HC5
  try clear p2
  try clear c8
  try clear c9
  try clear c9b0
  try clear c9b1
  obtain ⟨kq, x19_4, rfl, HA, HJ4, BK135, HB⟩ := hcut
  cases kq with
  | zero => exact absurd HA.out (by simp [num_times.j0])
  | succ kj4 =>
   have H := HA.out
   clear HA
   simp only [num_times.j0] at H
   by_cases c10 : x19_4 = true
   ·
    subst c10
    have H1 : (some (0, 0, 0)) = some (r1, r2, r3) := by rw [if_pos rfl] at H; exact H
    clear H
    have H := H1
    clear H1
    simp only [Option.some.injEq, Prod.mk.injEq] at H
    obtain ⟨rfl, rfl, rfl⟩ := H
    obtain ⟨hcz11_0, hcz11_1, hcz11_2, hfz11_0, hfz11_1, hfz11_2⟩ := kc3 BK135.out
    go_wp2
    refine bodyPost_ret (results_cell_row rfl _ _ gb135 111 #[.int .i64 0, .int .i64 0, .int .i64 0] (0, 0) _ rfl (by (with_reducible repeat first | apply kN | apply kD | apply kA); refine blk_put (cs := #[.int .i64 0, .int .i64 0, .int .i64 0]) ?_ 2 _ rfl; (with_reducible repeat first | apply kN | apply kD | apply kA); refine blk_put (cs := #[.int .i64 0, .int .i64 0, .int .i64 0]) ?_ 1 _ rfl; (with_reducible repeat first | apply kN | apply kD | apply kA); refine blk_put (cs := #[.int .i64 0, .int .i64 0, .int .i64 0]) ?_ 0 _ rfl; (with_reducible repeat first | apply kN | apply kD | apply kA); exact BK135.out) Try.underlying111 rfl qz) rfl ?_
    exact ⟨ez, bz⟩
   ·
    replace c10 := Bool.eq_false_iff.mpr c10
    subst c10
    have H1 : (if ((decide (a0 < 0)) != (decide (a1 < 0))) = true then (some ((-1), wrap64 ((wrap64 ((wrap64 ((wrap64 (Int.tdiv t136 33554432)) * (wrap64 (Int.tdiv t137 33554432)))) + (wrap64 (Int.tdiv (wrap64 ((wrap64 ((wrap64 (Int.tdiv t136 33554432)) * (Int.tmod t137 33554432))) + (wrap64 ((Int.tmod t136 33554432) * (wrap64 (Int.tdiv t137 33554432)))))) 33554432)))) + (wrap64 (Int.tdiv (wrap64 ((wrap64 ((Int.tmod t136 33554432) * (Int.tmod t137 33554432))) + (wrap64 ((Int.tmod (wrap64 ((wrap64 ((wrap64 (Int.tdiv t136 33554432)) * (Int.tmod t137 33554432))) + (wrap64 ((Int.tmod t136 33554432) * (wrap64 (Int.tdiv t137 33554432)))))) 33554432) * 33554432)))) 1125899906842624))), Int.tmod (wrap64 ((wrap64 ((Int.tmod t136 33554432) * (Int.tmod t137 33554432))) + (wrap64 ((Int.tmod (wrap64 ((wrap64 ((wrap64 (Int.tdiv t136 33554432)) * (Int.tmod t137 33554432))) + (wrap64 ((Int.tmod t136 33554432) * (wrap64 (Int.tdiv t137 33554432)))))) 33554432) * 33554432)))) 1125899906842624)) else (some (1, wrap64 ((wrap64 ((wrap64 ((wrap64 (Int.tdiv t136 33554432)) * (wrap64 (Int.tdiv t137 33554432)))) + (wrap64 (Int.tdiv (wrap64 ((wrap64 ((wrap64 (Int.tdiv t136 33554432)) * (Int.tmod t137 33554432))) + (wrap64 ((Int.tmod t136 33554432) * (wrap64 (Int.tdiv t137 33554432)))))) 33554432)))) + (wrap64 (Int.tdiv (wrap64 ((wrap64 ((Int.tmod t136 33554432) * (Int.tmod t137 33554432))) + (wrap64 ((Int.tmod (wrap64 ((wrap64 ((wrap64 (Int.tdiv t136 33554432)) * (Int.tmod t137 33554432))) + (wrap64 ((Int.tmod t136 33554432) * (wrap64 (Int.tdiv t137 33554432)))))) 33554432) * 33554432)))) 1125899906842624))), Int.tmod (wrap64 ((wrap64 ((Int.tmod t136 33554432) * (Int.tmod t137 33554432))) + (wrap64 ((Int.tmod (wrap64 ((wrap64 ((wrap64 (Int.tdiv t136 33554432)) * (Int.tmod t137 33554432))) + (wrap64 ((Int.tmod t136 33554432) * (wrap64 (Int.tdiv t137 33554432)))))) 33554432) * 33554432)))) 1125899906842624))) = some (r1, r2, r3) := by rw [if_neg (show ¬ (false = true) by decide)] at H; exact H
    clear H
    have H := H1
    clear H1
    by_cases c12 : ((decide (a0 < 0)) != (decide (a1 < 0))) = true
    ·
     rw [if_pos c12] at H
     have c12b0 : ((decide (a0 < 0)) != (decide (a1 < 0))) = true := c12
     (try (have c12b1 : decide ((decide (a0 < 0)) = (decide (a1 < 0))) = false := by simpa using c12))
     (try (have c12b2 : ((decide (a0 < 0)) == (decide (a1 < 0))) = false := by simpa using c12))
     (try (have c12b3 : ¬ ((decide (a0 < 0)) = (decide (a1 < 0))) := by simpa using c12))
     clear c12
     simp only [Option.some.injEq, Prod.mk.injEq] at H
     obtain ⟨rfl, rfl, rfl⟩ := H
     obtain ⟨hcz13_0, hcz13_1, hcz13_2, hfz13_0, hfz13_1, hfz13_2⟩ := kc3 BK135.out
     go_wp2
     refine bodyPost_ret (results_cell_row rfl _ _ gb135 111 #[.int .i64 (-1), .int .i64 (wrap64 ((wrap64 ((wrap64 ((wrap64 (Int.tdiv t136 33554432)) * (wrap64 (Int.tdiv t137 33554432)))) + (wrap64 (Int.tdiv (wrap64 ((wrap64 ((wrap64 (Int.tdiv t136 33554432)) * (Int.tmod t137 33554432))) + (wrap64 ((Int.tmod t136 33554432) * (wrap64 (Int.tdiv t137 33554432)))))) 33554432)))) + (wrap64 (Int.tdiv (wrap64 ((wrap64 ((Int.tmod t136 33554432) * (Int.tmod t137 33554432))) + (wrap64 ((Int.tmod (wrap64 ((wrap64 ((wrap64 (Int.tdiv t136 33554432)) * (Int.tmod t137 33554432))) + (wrap64 ((Int.tmod t136 33554432) * (wrap64 (Int.tdiv t137 33554432)))))) 33554432) * 33554432)))) 1125899906842624)))), .int .i64 (Int.tmod (wrap64 ((wrap64 ((Int.tmod t136 33554432) * (Int.tmod t137 33554432))) + (wrap64 ((Int.tmod (wrap64 ((wrap64 ((wrap64 (Int.tdiv t136 33554432)) * (Int.tmod t137 33554432))) + (wrap64 ((Int.tmod t136 33554432) * (wrap64 (Int.tdiv t137 33554432)))))) 33554432) * 33554432)))) 1125899906842624)] (0, 0) _ rfl (by (with_reducible repeat first | apply kN | apply kD | apply kA); refine blk_put (cs := #[.int .i64 (-1), .int .i64 (wrap64 ((wrap64 ((wrap64 ((wrap64 (Int.tdiv t136 33554432)) * (wrap64 (Int.tdiv t137 33554432)))) + (wrap64 (Int.tdiv (wrap64 ((wrap64 ((wrap64 (Int.tdiv t136 33554432)) * (Int.tmod t137 33554432))) + (wrap64 ((Int.tmod t136 33554432) * (wrap64 (Int.tdiv t137 33554432)))))) 33554432)))) + (wrap64 (Int.tdiv (wrap64 ((wrap64 ((Int.tmod t136 33554432) * (Int.tmod t137 33554432))) + (wrap64 ((Int.tmod (wrap64 ((wrap64 ((wrap64 (Int.tdiv t136 33554432)) * (Int.tmod t137 33554432))) + (wrap64 ((Int.tmod t136 33554432) * (wrap64 (Int.tdiv t137 33554432)))))) 33554432) * 33554432)))) 1125899906842624)))), .int .i64 0]) ?_ 2 _ rfl; (with_reducible repeat first | apply kN | apply kD | apply kA); refine blk_put (cs := #[.int .i64 (-1), .int .i64 0, .int .i64 0]) ?_ 1 _ rfl; (with_reducible repeat first | apply kN | apply kD | apply kA); refine blk_put (cs := #[.int .i64 0, .int .i64 0, .int .i64 0]) ?_ 0 _ rfl; (with_reducible repeat first | apply kN | apply kD | apply kA); exact BK135.out) Try.underlying111 rfl qz) rfl ?_
     exact ⟨ez, bz⟩
    ·
     rw [if_neg c12] at H
     have c12b0 : ((decide (a0 < 0)) != (decide (a1 < 0))) = false := by simpa using c12
     (try (have c12b1 : decide ((decide (a0 < 0)) = (decide (a1 < 0))) = true := by simpa using c12))
     (try (have c12b2 : ((decide (a0 < 0)) == (decide (a1 < 0))) = true := by simpa using c12))
     clear c12
     simp only [Option.some.injEq, Prod.mk.injEq] at H
     obtain ⟨rfl, rfl, rfl⟩ := H
     obtain ⟨hcz14_0, hcz14_1, hcz14_2, hfz14_0, hfz14_1, hfz14_2⟩ := kc3 BK135.out
     go_wp2
     refine bodyPost_ret (results_cell_row rfl _ _ gb135 111 #[.int .i64 1, .int .i64 (wrap64 ((wrap64 ((wrap64 ((wrap64 (Int.tdiv t136 33554432)) * (wrap64 (Int.tdiv t137 33554432)))) + (wrap64 (Int.tdiv (wrap64 ((wrap64 ((wrap64 (Int.tdiv t136 33554432)) * (Int.tmod t137 33554432))) + (wrap64 ((Int.tmod t136 33554432) * (wrap64 (Int.tdiv t137 33554432)))))) 33554432)))) + (wrap64 (Int.tdiv (wrap64 ((wrap64 ((Int.tmod t136 33554432) * (Int.tmod t137 33554432))) + (wrap64 ((Int.tmod (wrap64 ((wrap64 ((wrap64 (Int.tdiv t136 33554432)) * (Int.tmod t137 33554432))) + (wrap64 ((Int.tmod t136 33554432) * (wrap64 (Int.tdiv t137 33554432)))))) 33554432) * 33554432)))) 1125899906842624)))), .int .i64 (Int.tmod (wrap64 ((wrap64 ((Int.tmod t136 33554432) * (Int.tmod t137 33554432))) + (wrap64 ((Int.tmod (wrap64 ((wrap64 ((wrap64 (Int.tdiv t136 33554432)) * (Int.tmod t137 33554432))) + (wrap64 ((Int.tmod t136 33554432) * (wrap64 (Int.tdiv t137 33554432)))))) 33554432) * 33554432)))) 1125899906842624)] (0, 0) _ rfl (by (with_reducible repeat first | apply kN | apply kD | apply kA); refine blk_put (cs := #[.int .i64 1, .int .i64 (wrap64 ((wrap64 ((wrap64 ((wrap64 (Int.tdiv t136 33554432)) * (wrap64 (Int.tdiv t137 33554432)))) + (wrap64 (Int.tdiv (wrap64 ((wrap64 ((wrap64 (Int.tdiv t136 33554432)) * (Int.tmod t137 33554432))) + (wrap64 ((Int.tmod t136 33554432) * (wrap64 (Int.tdiv t137 33554432)))))) 33554432)))) + (wrap64 (Int.tdiv (wrap64 ((wrap64 ((Int.tmod t136 33554432) * (Int.tmod t137 33554432))) + (wrap64 ((Int.tmod (wrap64 ((wrap64 ((wrap64 (Int.tdiv t136 33554432)) * (Int.tmod t137 33554432))) + (wrap64 ((Int.tmod t136 33554432) * (wrap64 (Int.tdiv t137 33554432)))))) 33554432) * 33554432)))) 1125899906842624)))), .int .i64 0]) ?_ 2 _ rfl; (with_reducible repeat first | apply kN | apply kD | apply kA); refine blk_put (cs := #[.int .i64 1, .int .i64 0, .int .i64 0]) ?_ 1 _ rfl; (with_reducible repeat first | apply kN | apply kD | apply kA); refine blk_put (cs := #[.int .i64 0, .int .i64 0, .int .i64 0]) ?_ 0 _ rfl; (with_reducible repeat first | apply kN | apply kD | apply kA); exact BK135.out) Try.underlying111 rfl qz) rfl ?_
     exact ⟨ez, bz⟩

end Go.Proofs.Yteflngoiebgdaaa.X
