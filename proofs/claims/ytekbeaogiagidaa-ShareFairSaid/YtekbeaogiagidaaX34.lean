-- written by xprint.py, an own overlay over the kit's print; not trusted: Lean checks it
import Derived.Test.YtekbeaogiagidaaX0
import Derived.Test.YtekbeaogiagidaaX33
namespace Go.Proofs.Ytekbeaogiagidaa.X
open Go.RowKit Go.Proofs.YtekbeaogiagidaaW.PrintWords Go.Proofs.YtekbeaogiagidaaW.PrintLast Go.Proofs.YtekbeaogiagidaaW.PrintMore
attribute [local go_sem] max2_int min2_int max_two min_two max_three min_three max_four min_four   -- for this text's walks alone
set_option linter.unusedVariables false
set_option linter.unusedSimpArgs false

/-! ### num_times: function 27 -/
def num_times.j0 : Nat → Int → Int → Int → Int → Bool → Option (Int × Int × Int)
 | 0, _, _, _, _, _ => none
 | k + 1, x0, x1, x5, x6, x19 => if x19 = true then (some (0, 0, 0)) else (if ((decide (x0 < 0)) != (decide (x1 < 0))) = true then (some ((-1), wrap64 ((wrap64 ((wrap64 ((wrap64 (Int.tdiv x5 33554432)) * (wrap64 (Int.tdiv x6 33554432)))) + (wrap64 (Int.tdiv (wrap64 ((wrap64 ((wrap64 (Int.tdiv x5 33554432)) * (Int.tmod x6 33554432))) + (wrap64 ((Int.tmod x5 33554432) * (wrap64 (Int.tdiv x6 33554432)))))) 33554432)))) + (wrap64 (Int.tdiv (wrap64 ((wrap64 ((Int.tmod x5 33554432) * (Int.tmod x6 33554432))) + (wrap64 ((Int.tmod (wrap64 ((wrap64 ((wrap64 (Int.tdiv x5 33554432)) * (Int.tmod x6 33554432))) + (wrap64 ((Int.tmod x5 33554432) * (wrap64 (Int.tdiv x6 33554432)))))) 33554432) * 33554432)))) 1125899906842624))), Int.tmod (wrap64 ((wrap64 ((Int.tmod x5 33554432) * (Int.tmod x6 33554432))) + (wrap64 ((Int.tmod (wrap64 ((wrap64 ((wrap64 (Int.tdiv x5 33554432)) * (Int.tmod x6 33554432))) + (wrap64 ((Int.tmod x5 33554432) * (wrap64 (Int.tdiv x6 33554432)))))) 33554432) * 33554432)))) 1125899906842624)) else (some (1, wrap64 ((wrap64 ((wrap64 ((wrap64 (Int.tdiv x5 33554432)) * (wrap64 (Int.tdiv x6 33554432)))) + (wrap64 (Int.tdiv (wrap64 ((wrap64 ((wrap64 (Int.tdiv x5 33554432)) * (Int.tmod x6 33554432))) + (wrap64 ((Int.tmod x5 33554432) * (wrap64 (Int.tdiv x6 33554432)))))) 33554432)))) + (wrap64 (Int.tdiv (wrap64 ((wrap64 ((Int.tmod x5 33554432) * (Int.tmod x6 33554432))) + (wrap64 ((Int.tmod (wrap64 ((wrap64 ((wrap64 (Int.tdiv x5 33554432)) * (Int.tmod x6 33554432))) + (wrap64 ((Int.tmod x5 33554432) * (wrap64 (Int.tdiv x6 33554432)))))) 33554432) * 33554432)))) 1125899906842624))), Int.tmod (wrap64 ((wrap64 ((Int.tmod x5 33554432) * (Int.tmod x6 33554432))) + (wrap64 ((Int.tmod (wrap64 ((wrap64 ((wrap64 (Int.tdiv x5 33554432)) * (Int.tmod x6 33554432))) + (wrap64 ((Int.tmod x5 33554432) * (wrap64 (Int.tdiv x6 33554432)))))) 33554432) * 33554432)))) 1125899906842624)))
def num_times.f (k : Nat) (a0 : Int) (a1 : Int) : Option (Int × Int × Int) := (num_abs.f a0).bind fun t295 => ((num_abs.f a1).bind fun t296 => (if t295 = 0 then (num_times.j0 k a0 a1 t295 t296 true) else (num_times.j0 k a0 a1 t295 t296 (t296 == 0))))
theorem num_times.mono_l : ∀ k, (∀ y0 y1 y2 y3 y4, LeO (num_times.j0 k y0 y1 y2 y3 y4) (num_times.j0 (k + 1) y0 y1 y2 y3 y4))
 | 0 => fun _ _ _ _ _ r h => by simp [num_times.j0] at h
 | k + 1 => by
  have ih0 := num_times.mono_l k
  ·
   intro y0 y1 y2 y3 y4
   unfold num_times.j0
   repeat' first
   | (with_reducible exact ih0 _ _ _ _ _)
   | (with_reducible exact LeO.refl _)
   | (with_reducible exact LeO.none _)
   | (with_reducible refine LeO.ite ?_ ?_)
   | (with_reducible refine LeO.bind ?_ (fun _ => ?_))
   | exact ih0 _ _ _ _ _
   | exact LeO.none _
   | refine LeO.ite ?_ ?_
   | refine LeO.bind ?_ (fun _ => ?_)
theorem num_times.mono : ∀ a0 a1 k, LeO (num_times.f k a0 a1) (num_times.f (k + 1) a0 a1) := by
 intro a0 a1 k
 have ih0 := num_times.mono_l k
 unfold num_times.f
 repeat' first
   | (with_reducible exact ih0 _ _ _ _ _)
   | (with_reducible exact LeO.refl _)
   | (with_reducible exact LeO.none _)
   | (with_reducible refine LeO.ite ?_ ?_)
   | (with_reducible refine LeO.bind ?_ (fun _ => ?_))
   | exact ih0 _ _ _ _ _
   | exact LeO.none _
   | refine LeO.ite ?_ ?_
   | refine LeO.bind ?_ (fun _ => ?_)
set_option maxHeartbeats 8000000 in
set_option maxRecDepth 100000 in
theorem num_times.calls (k : Nat) (a0 : Int) (a1 : Int) (r1 : Int) (r2 : Int) (r3 : Int) (w : World) (h : num_times.f k a0 a1 = some (r1, r2, r3)) :
  Calls Try.prog 27 #[.int .i64 a0, .int .i64 a1] w fun e w' => e = .returned (.agg #[.int .i64 r1, .int .i64 r2, .int .i64 r3]) ∧ Below w.heap.size w w' := by
 have hu53 := Try.underlying53
 have HB := Aside0.mk (Below.refl w.heap.size w)
 have H : ((num_abs.f a0).bind fun t295 => ((num_abs.f a1).bind fun t296 => (if t295 = 0 then (num_times.j0 k a0 a1 t295 t296 true) else (num_times.j0 k a0 a1 t295 t296 (t296 == 0))))) = some (r1, r2, r3) := h
 clear h
 replace H := Option.bind_eq_some_iff.mp H
 obtain ⟨t295, A30, H⟩ := H
 replace H : ((num_abs.f a1).bind fun t296 => (if t295 = 0 then (num_times.j0 k a0 a1 t295 t296 true) else (num_times.j0 k a0 a1 t295 t296 (t296 == 0)))) = some (r1, r2, r3) := H
 have A3 := Aside0.mk A30
 clear A30
 replace H := Option.bind_eq_some_iff.mp H
 obtain ⟨t296, A40, H⟩ := H
 replace H : (if t295 = 0 then (num_times.j0 k a0 a1 t295 t296 true) else (num_times.j0 k a0 a1 t295 t296 (t296 == 0))) = some (r1, r2, r3) := H
 have A4 := Aside0.mk A40
 clear A40
 have HC5 := Aside0.mk H
 clear H
 go_enter Try.func27, Try.ntmps27
 go_upto_region 2 with (first | ((with_reducible refine gate_dst (N := 4) rfl ?_); refine box_event ?hg (N := 4) ?hd (cs := #[.int .i64 0, .int .i64 0, .int .i64 0]) (t := 53) ?hr ?_; (case hd => rfl); (case hg => rfl); (case hr => first | (go_simp; done) | (go_simp; rfl)); intro gb294 hg w6 hbox hb; have n0_ := Aside0.mk (below_step (by repeat (first | (with_reducible first | exact HB.out | apply below_alloc | apply pw_below_drewN | apply below_drew1) | exact HB.out)) hb); have n1_ := Aside0.mk (hbox); have n2_ := Aside0.mk ((by rw [hg]; exact (below_size (by repeat (first | (with_reducible first | exact HB.out | apply below_alloc | apply pw_below_drewN | apply below_drew1) | exact HB.out))) : w.heap.size ≤ gb294)); have n3_ := Aside0.mk ((by rw [hg]; exact (below_size (by repeat (first | (with_reducible first | exact HB.out | apply below_alloc | apply pw_below_drewN | apply below_drew1) | exact HB.out))) : w.heap.size ≤ gb294)); clear HB; have HB := n0_; have BK294 := n1_; have GW294 := n2_; have GE294 := n3_; clear n0_ n1_ n2_ n3_; clear hb hbox hg) | ((with_reducible refine gate_callee (f := 35) rfl ?_); refine goesL_ (some 11) rfl rfl Try.func35 (by kernel_rfl) rfl #[.int .i64 a0] rfl (by (try simp only [List.map_toArray, List.map_cons, List.map_nil]); first | done | rfl | (simp only [List.length_drop, List.length_take]; rfl)) ?_; (with_reducible refine (num_abs.calls a0 t295 _ A3.out).mono ?_); rintro e w7 ⟨rfl, hb⟩; refine ⟨_, rfl, ?_⟩; have n0_ := Aside0.mk (blk_below (g := gb294) (o := .cells #[.int .i64 0, .int .i64 0, .int .i64 0] 53 (0, 0)) (by (with_reducible repeat (first | refine blk_drewN ?_ _ | refine blk_drew ?_ | refine blk_alloc ?_ _)); exact BK294.out) hb); have n1_ := Aside0.mk (below_step (by repeat (first | (with_reducible first | exact HB.out | apply below_alloc | apply pw_below_drewN | apply below_drew1 | refine below_set ?_ GE294.out) | exact HB.out)) hb); clear BK294; clear HB; have BK294 := n0_; have HB := n1_; clear n0_ n1_; (try clear hb); (try clear hb2); (try clear hk); (try clear hi)) | ((with_reducible refine gate_callee (f := 35) rfl ?_); refine goesL_ (some 13) rfl rfl Try.func35 (by kernel_rfl) rfl #[.int .i64 a1] rfl (by (try simp only [List.map_toArray, List.map_cons, List.map_nil]); first | done | rfl | (simp only [List.length_drop, List.length_take]; rfl)) ?_; (with_reducible refine (num_abs.calls a1 t296 _ A4.out).mono ?_); rintro e w8 ⟨rfl, hb⟩; refine ⟨_, rfl, ?_⟩; have n0_ := Aside0.mk (blk_below (g := gb294) (o := .cells #[.int .i64 0, .int .i64 0, .int .i64 0] 53 (0, 0)) (by (with_reducible repeat (first | refine blk_drewN ?_ _ | refine blk_drew ?_ | refine blk_alloc ?_ _)); exact BK294.out) hb); have n1_ := Aside0.mk (below_step (by repeat (first | (with_reducible first | exact HB.out | apply below_alloc | apply pw_below_drewN | apply below_drew1 | refine below_set ?_ GE294.out) | exact HB.out)) hb); clear BK294; clear HB; have BK294 := n0_; have HB := n1_; clear n0_ n1_; (try clear hb); (try clear hb2); (try clear hk); (try clear hi)))
 (try simp only [Act.put, List.setIfInBounds_toArray, List.set_cons_zero, List.set_cons_succ])
 go_cut [19] (fun v19 wc => ∃ (kq : Nat) (x19_4 : Bool), v19 = .bool x19_4 ∧ Aside0 (num_times.j0 kq a0 a1 t295 t296 x19_4 = some (r1, r2, r3)) ∧ Aside0 (kq ≤ k) ∧ Aside0 (wc.heap[gb294]? = some (.cells #[.int .i64 0, .int .i64 0, .int .i64 0] 53 (0, 0))) ∧ Aside0 (Below w.heap.size w wc))
 case first =>
  have H := HC5.out
  clear HC5
  by_cases c9 : t295 = 0
  ·
   rw [if_pos c9] at H
   have c9b0 : (t295 == 0) = true := beq_iff_eq.mpr c9
   have c9b1 : (t295 != 0) = false := bne_eq_false_iff_eq.mpr c9
   clear c9
   (first | rw [c9b0] | (simp only [i64_w, i32_w]; rw [c9b0]) | skip)
   have H' := Aside0.mk H
   clear H
   go_wp2
   go_meet
   case rel => exact ⟨_, (true), (by first | rfl | (simp; done) | (simp [*]; done)), H', ⟨by first | omega | exact Nat.le_refl _⟩, ⟨by (with_reducible repeat (first | refine blk_drewN ?_ _ | refine blk_drew ?_ | refine blk_alloc ?_ _)); exact BK294.out⟩, ⟨by repeat (first | (with_reducible first | exact HB.out | apply below_alloc | apply pw_below_drewN | apply below_drew1 | refine below_set ?_ GE294.out) | exact HB.out)⟩⟩
  ·
   rw [if_neg c9] at H
   have c9b0 : (t295 == 0) = false := beq_eq_false_iff_ne.mpr c9
   have c9b1 : (t295 != 0) = true := bne_iff_ne.mpr c9
   (first | rw [c9b0] | (simp only [i64_w, i32_w]; rw [c9b0]) | skip)
   have H' := Aside0.mk H
   clear H
   go_wp2
   go_meet
   case rel => exact ⟨_, ((t296 == 0)), (by first | rfl | (simp; done) | (simp [*]; done)), H', ⟨by first | omega | exact Nat.le_refl _⟩, ⟨by (with_reducible repeat (first | refine blk_drewN ?_ _ | refine blk_drew ?_ | refine blk_alloc ?_ _)); exact BK294.out⟩, ⟨by repeat (first | (with_reducible first | exact HB.out | apply below_alloc | apply pw_below_drewN | apply below_drew1 | refine below_set ?_ GE294.out) | exact HB.out)⟩⟩
 case rest =>
  clear HC5
  try clear c2
  try clear p2
  try clear c3
  try clear c9
  try clear c9b0
  try clear c9b1
  obtain ⟨kq, x19_4, rfl, HA, HJ4, BK294, HB⟩ := hcut
  cases kq with
  | zero => exact absurd HA.out (by simp [num_times.j0])
  | succ kj4 =>
   have H := HA.out
   clear HA
   simp only [num_times.j0] at H
   by_cases c10 : x19_4 = true
   ·
    subst c10
    have H1 : (some (0, 0, 0)) = some (r1, r2, r3) := by rw [if_pos rfl] at H; exact H
    clear H
    have H := H1
    clear H1
    simp only [Option.some.injEq, Prod.mk.injEq] at H
    obtain ⟨rfl, rfl, rfl⟩ := H
    have hcz11_0 : wc.cell? ⟨gb294, 0, none⟩ = some (.int .i64 0) := (blk_cell BK294.out 0).trans rfl
    have hcz11_1 : wc.cell? ⟨gb294, 1, none⟩ = some (.int .i64 0) := (blk_cell BK294.out 1).trans rfl
    have hcz11_2 : wc.cell? ⟨gb294, 2, none⟩ = some (.int .i64 0) := (blk_cell BK294.out 2).trans rfl
    have hfz11_0 := blk_frozen BK294.out 0
    have hfz11_1 := blk_frozen BK294.out 1
    have hfz11_2 := blk_frozen BK294.out 2
    go_wp2
    refine bodyPost_ret (results_cell_row rfl _ _ gb294 53 #[.int .i64 0, .int .i64 0, .int .i64 0] (0, 0) _ rfl (by (with_reducible repeat (first | refine blk_drewN ?_ _ | refine blk_drew ?_ | refine blk_alloc ?_ _)); refine blk_put (cs := #[.int .i64 0, .int .i64 0, .int .i64 0]) ?_ 2 _ rfl; (with_reducible repeat (first | refine blk_drewN ?_ _ | refine blk_drew ?_ | refine blk_alloc ?_ _)); refine blk_put (cs := #[.int .i64 0, .int .i64 0, .int .i64 0]) ?_ 1 _ rfl; (with_reducible repeat (first | refine blk_drewN ?_ _ | refine blk_drew ?_ | refine blk_alloc ?_ _)); refine blk_put (cs := #[.int .i64 0, .int .i64 0, .int .i64 0]) ?_ 0 _ rfl; (with_reducible repeat (first | refine blk_drewN ?_ _ | refine blk_drew ?_ | refine blk_alloc ?_ _)); exact BK294.out) Try.underlying53 rfl (by kernel_rfl)) rfl ?_
    exact ⟨by first | rfl | (simp [errW_none, errW_some] <;> rfl) | (simp [*, errW_none, errW_some] <;> rfl), by repeat (first | (with_reducible first | exact HB.out | apply below_alloc | apply pw_below_drewN | apply below_drew1 | refine below_set ?_ GE294.out) | exact HB.out)⟩
   ·
    replace c10 := Bool.eq_false_iff.mpr c10
    subst c10
    have H1 : (if ((decide (a0 < 0)) != (decide (a1 < 0))) = true then (some ((-1), wrap64 ((wrap64 ((wrap64 ((wrap64 (Int.tdiv t295 33554432)) * (wrap64 (Int.tdiv t296 33554432)))) + (wrap64 (Int.tdiv (wrap64 ((wrap64 ((wrap64 (Int.tdiv t295 33554432)) * (Int.tmod t296 33554432))) + (wrap64 ((Int.tmod t295 33554432) * (wrap64 (Int.tdiv t296 33554432)))))) 33554432)))) + (wrap64 (Int.tdiv (wrap64 ((wrap64 ((Int.tmod t295 33554432) * (Int.tmod t296 33554432))) + (wrap64 ((Int.tmod (wrap64 ((wrap64 ((wrap64 (Int.tdiv t295 33554432)) * (Int.tmod t296 33554432))) + (wrap64 ((Int.tmod t295 33554432) * (wrap64 (Int.tdiv t296 33554432)))))) 33554432) * 33554432)))) 1125899906842624))), Int.tmod (wrap64 ((wrap64 ((Int.tmod t295 33554432) * (Int.tmod t296 33554432))) + (wrap64 ((Int.tmod (wrap64 ((wrap64 ((wrap64 (Int.tdiv t295 33554432)) * (Int.tmod t296 33554432))) + (wrap64 ((Int.tmod t295 33554432) * (wrap64 (Int.tdiv t296 33554432)))))) 33554432) * 33554432)))) 1125899906842624)) else (some (1, wrap64 ((wrap64 ((wrap64 ((wrap64 (Int.tdiv t295 33554432)) * (wrap64 (Int.tdiv t296 33554432)))) + (wrap64 (Int.tdiv (wrap64 ((wrap64 ((wrap64 (Int.tdiv t295 33554432)) * (Int.tmod t296 33554432))) + (wrap64 ((Int.tmod t295 33554432) * (wrap64 (Int.tdiv t296 33554432)))))) 33554432)))) + (wrap64 (Int.tdiv (wrap64 ((wrap64 ((Int.tmod t295 33554432) * (Int.tmod t296 33554432))) + (wrap64 ((Int.tmod (wrap64 ((wrap64 ((wrap64 (Int.tdiv t295 33554432)) * (Int.tmod t296 33554432))) + (wrap64 ((Int.tmod t295 33554432) * (wrap64 (Int.tdiv t296 33554432)))))) 33554432) * 33554432)))) 1125899906842624))), Int.tmod (wrap64 ((wrap64 ((Int.tmod t295 33554432) * (Int.tmod t296 33554432))) + (wrap64 ((Int.tmod (wrap64 ((wrap64 ((wrap64 (Int.tdiv t295 33554432)) * (Int.tmod t296 33554432))) + (wrap64 ((Int.tmod t295 33554432) * (wrap64 (Int.tdiv t296 33554432)))))) 33554432) * 33554432)))) 1125899906842624))) = some (r1, r2, r3) := by rw [if_neg (show ¬ (false = true) by decide)] at H; exact H
    clear H
    have H := H1
    clear H1
    by_cases c12 : ((decide (a0 < 0)) != (decide (a1 < 0))) = true
    ·
     rw [if_pos c12] at H
     have c12b0 : ((decide (a0 < 0)) != (decide (a1 < 0))) = true := c12
     (try (have c12b1 : decide ((decide (a0 < 0)) = (decide (a1 < 0))) = false := by simpa using c12))
     (try (have c12b2 : ((decide (a0 < 0)) == (decide (a1 < 0))) = false := by simpa using c12))
     (try (have c12b3 : ¬ ((decide (a0 < 0)) = (decide (a1 < 0))) := by simpa using c12))
     clear c12
     simp only [Option.some.injEq, Prod.mk.injEq] at H
     obtain ⟨rfl, rfl, rfl⟩ := H
     have hcz13_0 : wc.cell? ⟨gb294, 0, none⟩ = some (.int .i64 0) := (blk_cell BK294.out 0).trans rfl
     have hcz13_1 : wc.cell? ⟨gb294, 1, none⟩ = some (.int .i64 0) := (blk_cell BK294.out 1).trans rfl
     have hcz13_2 : wc.cell? ⟨gb294, 2, none⟩ = some (.int .i64 0) := (blk_cell BK294.out 2).trans rfl
     have hfz13_0 := blk_frozen BK294.out 0
     have hfz13_1 := blk_frozen BK294.out 1
     have hfz13_2 := blk_frozen BK294.out 2
     go_wp2
     refine bodyPost_ret (results_cell_row rfl _ _ gb294 53 #[.int .i64 (-1), .int .i64 (wrap64 ((wrap64 ((wrap64 ((wrap64 (Int.tdiv t295 33554432)) * (wrap64 (Int.tdiv t296 33554432)))) + (wrap64 (Int.tdiv (wrap64 ((wrap64 ((wrap64 (Int.tdiv t295 33554432)) * (Int.tmod t296 33554432))) + (wrap64 ((Int.tmod t295 33554432) * (wrap64 (Int.tdiv t296 33554432)))))) 33554432)))) + (wrap64 (Int.tdiv (wrap64 ((wrap64 ((Int.tmod t295 33554432) * (Int.tmod t296 33554432))) + (wrap64 ((Int.tmod (wrap64 ((wrap64 ((wrap64 (Int.tdiv t295 33554432)) * (Int.tmod t296 33554432))) + (wrap64 ((Int.tmod t295 33554432) * (wrap64 (Int.tdiv t296 33554432)))))) 33554432) * 33554432)))) 1125899906842624)))), .int .i64 (Int.tmod (wrap64 ((wrap64 ((Int.tmod t295 33554432) * (Int.tmod t296 33554432))) + (wrap64 ((Int.tmod (wrap64 ((wrap64 ((wrap64 (Int.tdiv t295 33554432)) * (Int.tmod t296 33554432))) + (wrap64 ((Int.tmod t295 33554432) * (wrap64 (Int.tdiv t296 33554432)))))) 33554432) * 33554432)))) 1125899906842624)] (0, 0) _ rfl (by (with_reducible repeat (first | refine blk_drewN ?_ _ | refine blk_drew ?_ | refine blk_alloc ?_ _)); refine blk_put (cs := #[.int .i64 (-1), .int .i64 (wrap64 ((wrap64 ((wrap64 ((wrap64 (Int.tdiv t295 33554432)) * (wrap64 (Int.tdiv t296 33554432)))) + (wrap64 (Int.tdiv (wrap64 ((wrap64 ((wrap64 (Int.tdiv t295 33554432)) * (Int.tmod t296 33554432))) + (wrap64 ((Int.tmod t295 33554432) * (wrap64 (Int.tdiv t296 33554432)))))) 33554432)))) + (wrap64 (Int.tdiv (wrap64 ((wrap64 ((Int.tmod t295 33554432) * (Int.tmod t296 33554432))) + (wrap64 ((Int.tmod (wrap64 ((wrap64 ((wrap64 (Int.tdiv t295 33554432)) * (Int.tmod t296 33554432))) + (wrap64 ((Int.tmod t295 33554432) * (wrap64 (Int.tdiv t296 33554432)))))) 33554432) * 33554432)))) 1125899906842624)))), .int .i64 0]) ?_ 2 _ rfl; (with_reducible repeat (first | refine blk_drewN ?_ _ | refine blk_drew ?_ | refine blk_alloc ?_ _)); refine blk_put (cs := #[.int .i64 (-1), .int .i64 0, .int .i64 0]) ?_ 1 _ rfl; (with_reducible repeat (first | refine blk_drewN ?_ _ | refine blk_drew ?_ | refine blk_alloc ?_ _)); refine blk_put (cs := #[.int .i64 0, .int .i64 0, .int .i64 0]) ?_ 0 _ rfl; (with_reducible repeat (first | refine blk_drewN ?_ _ | refine blk_drew ?_ | refine blk_alloc ?_ _)); exact BK294.out) Try.underlying53 rfl (by kernel_rfl)) rfl ?_
     exact ⟨by first | rfl | (simp [errW_none, errW_some] <;> rfl) | (simp [*, errW_none, errW_some] <;> rfl), by repeat (first | (with_reducible first | exact HB.out | apply below_alloc | apply pw_below_drewN | apply below_drew1 | refine below_set ?_ GE294.out) | exact HB.out)⟩
    ·
     rw [if_neg c12] at H
     have c12b0 : ((decide (a0 < 0)) != (decide (a1 < 0))) = false := by simpa using c12
     (try (have c12b1 : decide ((decide (a0 < 0)) = (decide (a1 < 0))) = true := by simpa using c12))
     (try (have c12b2 : ((decide (a0 < 0)) == (decide (a1 < 0))) = true := by simpa using c12))
     clear c12
     simp only [Option.some.injEq, Prod.mk.injEq] at H
     obtain ⟨rfl, rfl, rfl⟩ := H
     have hcz14_0 : wc.cell? ⟨gb294, 0, none⟩ = some (.int .i64 0) := (blk_cell BK294.out 0).trans rfl
     have hcz14_1 : wc.cell? ⟨gb294, 1, none⟩ = some (.int .i64 0) := (blk_cell BK294.out 1).trans rfl
     have hcz14_2 : wc.cell? ⟨gb294, 2, none⟩ = some (.int .i64 0) := (blk_cell BK294.out 2).trans rfl
     have hfz14_0 := blk_frozen BK294.out 0
     have hfz14_1 := blk_frozen BK294.out 1
     have hfz14_2 := blk_frozen BK294.out 2
     go_wp2
     refine bodyPost_ret (results_cell_row rfl _ _ gb294 53 #[.int .i64 1, .int .i64 (wrap64 ((wrap64 ((wrap64 ((wrap64 (Int.tdiv t295 33554432)) * (wrap64 (Int.tdiv t296 33554432)))) + (wrap64 (Int.tdiv (wrap64 ((wrap64 ((wrap64 (Int.tdiv t295 33554432)) * (Int.tmod t296 33554432))) + (wrap64 ((Int.tmod t295 33554432) * (wrap64 (Int.tdiv t296 33554432)))))) 33554432)))) + (wrap64 (Int.tdiv (wrap64 ((wrap64 ((Int.tmod t295 33554432) * (Int.tmod t296 33554432))) + (wrap64 ((Int.tmod (wrap64 ((wrap64 ((wrap64 (Int.tdiv t295 33554432)) * (Int.tmod t296 33554432))) + (wrap64 ((Int.tmod t295 33554432) * (wrap64 (Int.tdiv t296 33554432)))))) 33554432) * 33554432)))) 1125899906842624)))), .int .i64 (Int.tmod (wrap64 ((wrap64 ((Int.tmod t295 33554432) * (Int.tmod t296 33554432))) + (wrap64 ((Int.tmod (wrap64 ((wrap64 ((wrap64 (Int.tdiv t295 33554432)) * (Int.tmod t296 33554432))) + (wrap64 ((Int.tmod t295 33554432) * (wrap64 (Int.tdiv t296 33554432)))))) 33554432) * 33554432)))) 1125899906842624)] (0, 0) _ rfl (by (with_reducible repeat (first | refine blk_drewN ?_ _ | refine blk_drew ?_ | refine blk_alloc ?_ _)); refine blk_put (cs := #[.int .i64 1, .int .i64 (wrap64 ((wrap64 ((wrap64 ((wrap64 (Int.tdiv t295 33554432)) * (wrap64 (Int.tdiv t296 33554432)))) + (wrap64 (Int.tdiv (wrap64 ((wrap64 ((wrap64 (Int.tdiv t295 33554432)) * (Int.tmod t296 33554432))) + (wrap64 ((Int.tmod t295 33554432) * (wrap64 (Int.tdiv t296 33554432)))))) 33554432)))) + (wrap64 (Int.tdiv (wrap64 ((wrap64 ((Int.tmod t295 33554432) * (Int.tmod t296 33554432))) + (wrap64 ((Int.tmod (wrap64 ((wrap64 ((wrap64 (Int.tdiv t295 33554432)) * (Int.tmod t296 33554432))) + (wrap64 ((Int.tmod t295 33554432) * (wrap64 (Int.tdiv t296 33554432)))))) 33554432) * 33554432)))) 1125899906842624)))), .int .i64 0]) ?_ 2 _ rfl; (with_reducible repeat (first | refine blk_drewN ?_ _ | refine blk_drew ?_ | refine blk_alloc ?_ _)); refine blk_put (cs := #[.int .i64 1, .int .i64 0, .int .i64 0]) ?_ 1 _ rfl; (with_reducible repeat (first | refine blk_drewN ?_ _ | refine blk_drew ?_ | refine blk_alloc ?_ _)); refine blk_put (cs := #[.int .i64 0, .int .i64 0, .int .i64 0]) ?_ 0 _ rfl; (with_reducible repeat (first | refine blk_drewN ?_ _ | refine blk_drew ?_ | refine blk_alloc ?_ _)); exact BK294.out) Try.underlying53 rfl (by kernel_rfl)) rfl ?_
     exact ⟨by first | rfl | (simp [errW_none, errW_some] <;> rfl) | (simp [*, errW_none, errW_some] <;> rfl), by repeat (first | (with_reducible first | exact HB.out | apply below_alloc | apply pw_below_drewN | apply below_drew1 | refine below_set ?_ GE294.out) | exact HB.out)⟩

end Go.Proofs.Ytekbeaogiagidaa.X
