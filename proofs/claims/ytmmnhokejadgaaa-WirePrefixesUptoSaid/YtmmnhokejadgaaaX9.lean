-- written by xprint.py, an own overlay over the kit's print; not trusted: Lean checks it
import Derived.Test.YtmmnhokejadgaaaX0
import Derived.Test.YtmmnhokejadgaaaX2
import Derived.Test.YtmmnhokejadgaaaX4
namespace Go.Proofs.Ytmmnhokejadgaaa.X
open Go.RowKit Go.Proofs.YtmmnhokejadgaaaW.PrintWords Go.Proofs.YtmmnhokejadgaaaW.PrintLast Go.Proofs.YtmmnhokejadgaaaW.PrintMore
attribute [local go_sem] max2_int min2_int max_two min_two max_three min_three max_four min_four   -- for this text's walks alone
set_option linter.unusedVariables false
set_option linter.unusedSimpArgs false

/-! ### dancestudiolaw07_WireSizes: function 9 -/
mutual
def dancestudiolaw07_WireSizes.j0 : Nat → Int → Int → Int → Int → Bool → Option (Bool)
 | 0, _, _, _, _, _ => none
 | k + 1, x0, x1, x5, x6, x29 => if x29 = true then (some false) else (if x0 ≥ 0 then (if x1 ≥ x0 then (if x6 < x5 then (dancestudiolaw07_WireSizes.j1 k true) else (if x0 < 0 then (if x1 ≤ x0 then (dancestudiolaw07_WireSizes.j1 k (decide (x6 < x5))) else (dancestudiolaw07_WireSizes.j1 k false)) else (dancestudiolaw07_WireSizes.j1 k false))) else (if x0 < 0 then (if x1 ≤ x0 then (dancestudiolaw07_WireSizes.j1 k (decide (x6 < x5))) else (dancestudiolaw07_WireSizes.j1 k false)) else (dancestudiolaw07_WireSizes.j1 k false))) else (if x0 < 0 then (if x1 ≤ x0 then (dancestudiolaw07_WireSizes.j1 k (decide (x6 < x5))) else (dancestudiolaw07_WireSizes.j1 k false)) else (dancestudiolaw07_WireSizes.j1 k false)))
def dancestudiolaw07_WireSizes.j1 : Nat → Bool → Option (Bool)
 | 0, _ => none
 | k + 1, x55 => if x55 = true then (some false) else ((dancestudiolaw07_awake.f k).bind fun t455 => (some t455))
end
def dancestudiolaw07_WireSizes.f (k : Nat) (a0 : Int) (a1 : Int) : Option (Bool) := (wire_PutInt.f k ([] : List Int) a0).bind fun t449 => ((wire_PutInt.f k ([] : List Int) a1).bind fun t452 => (if (t449.length : Int) < 1 then (dancestudiolaw07_WireSizes.j0 k a0 a1 (t449.length : Int) (t452.length : Int) true) else (if (t449.length : Int) > 10 then (dancestudiolaw07_WireSizes.j0 k a0 a1 (t449.length : Int) (t452.length : Int) true) else (if a0 ≥ (-64) then (dancestudiolaw07_WireSizes.j0 k a0 a1 (t449.length : Int) (t452.length : Int) (((t449.length : Int) == 1) != (decide (a0 ≤ 63)))) else (dancestudiolaw07_WireSizes.j0 k a0 a1 (t449.length : Int) (t452.length : Int) (((t449.length : Int) == 1) != false))))))
theorem dancestudiolaw07_WireSizes.mono_l : ∀ k, (∀ y0 y1 y2 y3 y4, LeO (dancestudiolaw07_WireSizes.j0 k y0 y1 y2 y3 y4) (dancestudiolaw07_WireSizes.j0 (k + 1) y0 y1 y2 y3 y4)) ∧ (∀ y0, LeO (dancestudiolaw07_WireSizes.j1 k y0) (dancestudiolaw07_WireSizes.j1 (k + 1) y0))
 | 0 => ⟨fun _ _ _ _ _ r h => by simp [dancestudiolaw07_WireSizes.j0] at h, fun _ r h => by simp [dancestudiolaw07_WireSizes.j1] at h⟩
 | k + 1 => by
  obtain ⟨ih0, ih1⟩ := dancestudiolaw07_WireSizes.mono_l k
  refine ⟨?_, ?_⟩
  ·
   intro y0 y1 y2 y3 y4
   unfold dancestudiolaw07_WireSizes.j0
   repeat' first
   | (with_reducible exact ih0 _ _ _ _ _)
   | (with_reducible exact ih1 _)
   | (with_reducible exact dancestudiolaw07_awake.mono _)
   | (with_reducible exact wire_PutInt.mono _ _ _)
   | (with_reducible exact LeO.refl _)
   | (with_reducible exact LeO.none _)
   | (with_reducible refine LeO.ite ?_ ?_)
   | (with_reducible refine LeO.bind ?_ (fun _ => ?_))
   | exact ih0 _ _ _ _ _
   | exact ih1 _
   | exact dancestudiolaw07_awake.mono _
   | exact wire_PutInt.mono _ _ _
   | exact LeO.none _
   | refine LeO.ite ?_ ?_
   | refine LeO.bind ?_ (fun _ => ?_)
  ·
   intro y0
   unfold dancestudiolaw07_WireSizes.j1
   repeat' first
   | (with_reducible exact ih0 _ _ _ _ _)
   | (with_reducible exact ih1 _)
   | (with_reducible exact dancestudiolaw07_awake.mono _)
   | (with_reducible exact wire_PutInt.mono _ _ _)
   | (with_reducible exact LeO.refl _)
   | (with_reducible exact LeO.none _)
   | (with_reducible refine LeO.ite ?_ ?_)
   | (with_reducible refine LeO.bind ?_ (fun _ => ?_))
   | exact ih0 _ _ _ _ _
   | exact ih1 _
   | exact dancestudiolaw07_awake.mono _
   | exact wire_PutInt.mono _ _ _
   | exact LeO.none _
   | refine LeO.ite ?_ ?_
   | refine LeO.bind ?_ (fun _ => ?_)
theorem dancestudiolaw07_WireSizes.mono : ∀ a0 a1 k, LeO (dancestudiolaw07_WireSizes.f k a0 a1) (dancestudiolaw07_WireSizes.f (k + 1) a0 a1) := by
 intro a0 a1 k
 obtain ⟨ih0, ih1⟩ := dancestudiolaw07_WireSizes.mono_l k
 unfold dancestudiolaw07_WireSizes.f
 repeat' first
   | (with_reducible exact ih0 _ _ _ _ _)
   | (with_reducible exact ih1 _)
   | (with_reducible exact dancestudiolaw07_awake.mono _)
   | (with_reducible exact wire_PutInt.mono _ _ _)
   | (with_reducible exact LeO.refl _)
   | (with_reducible exact LeO.none _)
   | (with_reducible refine LeO.ite ?_ ?_)
   | (with_reducible refine LeO.bind ?_ (fun _ => ?_))
   | exact ih0 _ _ _ _ _
   | exact ih1 _
   | exact dancestudiolaw07_awake.mono _
   | exact wire_PutInt.mono _ _ _
   | exact LeO.none _
   | refine LeO.ite ?_ ?_
   | refine LeO.bind ?_ (fun _ => ?_)
set_option maxHeartbeats 8000000 in
set_option maxRecDepth 100000 in
theorem dancestudiolaw07_WireSizes.calls (k : Nat) (a0 : Int) (a1 : Int) (r : Bool) (w : World) (h : dancestudiolaw07_WireSizes.f k a0 a1 = some r) :
  Calls Try.prog 9 #[.int .i64 a0, .int .i64 a1] w fun e w' => e = .returned (.bool r) ∧ Below w.heap.size w w' := by
 have HB := Aside0.mk (Below.refl w.heap.size w)
 have H : ((wire_PutInt.f k ([] : List Int) a0).bind fun t449 => ((wire_PutInt.f k ([] : List Int) a1).bind fun t452 => (if (t449.length : Int) < 1 then (dancestudiolaw07_WireSizes.j0 k a0 a1 (t449.length : Int) (t452.length : Int) true) else (if (t449.length : Int) > 10 then (dancestudiolaw07_WireSizes.j0 k a0 a1 (t449.length : Int) (t452.length : Int) true) else (if a0 ≥ (-64) then (dancestudiolaw07_WireSizes.j0 k a0 a1 (t449.length : Int) (t452.length : Int) (((t449.length : Int) == 1) != (decide (a0 ≤ 63)))) else (dancestudiolaw07_WireSizes.j0 k a0 a1 (t449.length : Int) (t452.length : Int) (((t449.length : Int) == 1) != false))))))) = some r := h
 clear h
 replace H := Option.bind_eq_some_iff.mp H
 obtain ⟨t449, A30, H⟩ := H
 replace H : ((wire_PutInt.f k ([] : List Int) a1).bind fun t452 => (if (t449.length : Int) < 1 then (dancestudiolaw07_WireSizes.j0 k a0 a1 (t449.length : Int) (t452.length : Int) true) else (if (t449.length : Int) > 10 then (dancestudiolaw07_WireSizes.j0 k a0 a1 (t449.length : Int) (t452.length : Int) true) else (if a0 ≥ (-64) then (dancestudiolaw07_WireSizes.j0 k a0 a1 (t449.length : Int) (t452.length : Int) (((t449.length : Int) == 1) != (decide (a0 ≤ 63)))) else (dancestudiolaw07_WireSizes.j0 k a0 a1 (t449.length : Int) (t452.length : Int) (((t449.length : Int) == 1) != false)))))) = some r := H
 have A3 := Aside0.mk A30
 clear A30
 replace H := Option.bind_eq_some_iff.mp H
 obtain ⟨t452, A40, H⟩ := H
 replace H : (if (t449.length : Int) < 1 then (dancestudiolaw07_WireSizes.j0 k a0 a1 (t449.length : Int) (t452.length : Int) true) else (if (t449.length : Int) > 10 then (dancestudiolaw07_WireSizes.j0 k a0 a1 (t449.length : Int) (t452.length : Int) true) else (if a0 ≥ (-64) then (dancestudiolaw07_WireSizes.j0 k a0 a1 (t449.length : Int) (t452.length : Int) (((t449.length : Int) == 1) != (decide (a0 ≤ 63)))) else (dancestudiolaw07_WireSizes.j0 k a0 a1 (t449.length : Int) (t452.length : Int) (((t449.length : Int) == 1) != false))))) = some r := H
 have A4 := Aside0.mk A40
 clear A40
 have HC5 := Aside0.mk H
 clear H
 go_enter Try.func9, Try.ntmps9
 go_upto_region 2 with (first | ((with_reducible refine gate_callee (f := 14) rfl ?_); refine goesL_ (some 8) rfl rfl Try.func14 (by kernel_rfl) rfl #[.slice none 0 0, .int .i64 a0] rfl (by (try simp only [List.map_toArray, List.map_cons, List.map_nil]); first | done | rfl | (simp only [List.length_drop, List.length_take]; rfl)) ?_; (refine (wire_PutInt.calls k _ _ ([] : List Int) a0 t449 _ ?side1 ?side2 A3.out).mono ?_); (case side1 => exact Kd.C_nil _ _); (case side2 => exact Nat.le_refl _); rintro e w6 ⟨v450, rfl, ho0, hb⟩; refine ⟨_, rfl, ?_⟩; have n0_ := Aside0.mk (Kd.R_lower ho0 (below_size (by repeat (first | (with_reducible first | exact HB.out | apply below_alloc | apply pw_below_drewN | apply below_drew1) | exact HB.out)))); have n1_ := Aside0.mk (below_step (by repeat (first | (with_reducible first | exact HB.out | apply below_alloc | apply pw_below_drewN | apply below_drew1) | exact HB.out)) hb); clear HB; have HO451 := n0_; have HB := n1_; clear n0_ n1_; (try clear hb); (try clear hb2); (try clear hk); (try clear hi); (try clear ho0); obtain ⟨Ao7, co7, eo7⟩ := Kd.R_slice HO451.out; subst eo7) | ((with_reducible refine gate_callee (f := 14) rfl ?_); refine goesL_ (some 11) rfl rfl Try.func14 (by kernel_rfl) rfl #[.slice none 0 0, .int .i64 a1] rfl (by (try simp only [List.map_toArray, List.map_cons, List.map_nil]); first | done | rfl | (simp only [List.length_drop, List.length_take]; rfl)) ?_; (refine (wire_PutInt.calls k _ _ ([] : List Int) a1 t452 _ ?side1 ?side2 A4.out).mono ?_); (case side1 => exact Kd.C_nil _ _); (case side2 => exact Nat.le_refl _); rintro e w8 ⟨v453, rfl, ho0, hb⟩; refine ⟨_, rfl, ?_⟩; have n0_ := Aside0.mk (Kd.R_elder' (by (with_reducible repeat (first | apply Kd.R_alloc | apply Kd.R_drewN | apply Kd.R_drew)); exact HO451.out) (Kd.R_base ho0) hb); have n1_ := Aside0.mk (Kd.R_lower (Kd.R_new' ho0 (Kd.R_lt (by (with_reducible repeat (first | apply Kd.R_alloc | apply Kd.R_drewN | apply Kd.R_drew)); exact HO451.out))) (below_size (by repeat (first | (with_reducible first | exact HB.out | apply below_alloc | apply pw_below_drewN | apply below_drew1) | exact HB.out)))); have n2_ := Aside0.mk (below_step (by repeat (first | (with_reducible first | exact HB.out | apply below_alloc | apply pw_below_drewN | apply below_drew1) | exact HB.out)) hb); clear HO451; clear HB; have HO451 := n0_; have HO454 := n1_; have HB := n2_; clear n0_ n1_ n2_; (try clear hb); (try clear hb2); (try clear hk); (try clear hi); (try clear ho0); obtain ⟨Ao9, co9, eo9⟩ := Kd.R_slice HO454.out; subst eo9))
 (try simp only [Act.put, List.setIfInBounds_toArray, List.set_cons_zero, List.set_cons_succ])
 go_cut [29] (fun v29 wc => ∃ (kq : Nat) (x29_4 : Bool), v29 = .bool x29_4 ∧ Aside0 (dancestudiolaw07_WireSizes.j0 kq a0 a1 (t449.length : Int) (t452.length : Int) x29_4 = some r) ∧ Aside0 (kq ≤ k) ∧ Aside0 (Below w.heap.size w wc))
 case first =>
  have H := HC5.out
  clear HC5
  by_cases c10 : (t449.length : Int) < 1
  ·
   rw [if_pos c10] at H
   have c10b0 : decide ((t449.length : Int) < 1) = true := decide_eq_true c10
   have c10b1 : decide (t449.length < 1) = true := decide_eq_true (by omega)
   clear c10
   (first | rw [c10b0] | (simp only [i64_w, i32_w]; rw [c10b0]) | skip)
   have H' := Aside0.mk H
   clear H
   go_wp2
   go_meet
   case rel => exact ⟨_, (true), (by first | rfl | (simp; done) | (simp [*]; done)), H', ⟨by first | omega | exact Nat.le_refl _⟩, ⟨by repeat (first | (with_reducible first | exact HB.out | apply below_alloc | apply pw_below_drewN | apply below_drew1) | exact HB.out)⟩⟩
  ·
   rw [if_neg c10] at H
   have c10b0 : decide ((t449.length : Int) < 1) = false := decide_eq_false c10
   have c10b1 : decide (t449.length < 1) = false := decide_eq_false (by omega)
   clear c10
   (first | rw [c10b0] | (simp only [i64_w, i32_w]; rw [c10b0]) | skip)
   by_cases c11 : (t449.length : Int) > 10
   ·
    rw [if_pos c11] at H
    have c11b0 : decide (10 < (t449.length : Int)) = true := decide_eq_true c11
    have c11b1 : decide (10 < t449.length) = true := decide_eq_true (by omega)
    clear c11
    have H' := Aside0.mk H
    clear H
    go_wp2
    go_meet
    case rel => exact ⟨_, (true), (by first | rfl | (simp; done) | (simp [*]; done)), H', ⟨by first | omega | exact Nat.le_refl _⟩, ⟨by repeat (first | (with_reducible first | exact HB.out | apply below_alloc | apply pw_below_drewN | apply below_drew1) | exact HB.out)⟩⟩
   ·
    rw [if_neg c11] at H
    have c11b0 : decide (10 < (t449.length : Int)) = false := decide_eq_false c11
    have c11b1 : decide (10 < t449.length) = false := decide_eq_false (by omega)
    clear c11
    by_cases c12 : a0 ≥ (-64)
    ·
     rw [if_pos c12] at H
     have c12b0 : decide ((-64) ≤ a0) = true := decide_eq_true c12
     clear c12
     have H' := Aside0.mk H
     clear H
     go_wp2
     go_meet
     case rel => exact ⟨_, ((((t449.length : Int) == 1) != (decide (a0 ≤ 63)))), (by first | rfl | (simp; done) | (simp [*]; done)), H', ⟨by first | omega | exact Nat.le_refl _⟩, ⟨by repeat (first | (with_reducible first | exact HB.out | apply below_alloc | apply pw_below_drewN | apply below_drew1) | exact HB.out)⟩⟩
    ·
     rw [if_neg c12] at H
     have c12b0 : decide ((-64) ≤ a0) = false := decide_eq_false c12
     clear c12
     have H' := Aside0.mk H
     clear H
     go_wp2
     go_meet
     case rel => exact ⟨_, ((((t449.length : Int) == 1) != false)), (by first | rfl | (simp; done) | (simp [*]; done)), H', ⟨by first | omega | exact Nat.le_refl _⟩, ⟨by repeat (first | (with_reducible first | exact HB.out | apply below_alloc | apply pw_below_drewN | apply below_drew1) | exact HB.out)⟩⟩
 case rest =>
  clear HC5
  try clear c1
  try clear p2
  try clear c9
  try clear c10
  try clear c10b0
  try clear c10b1
  try clear c11
  try clear c11b0
  try clear c11b1
  try clear c12
  try clear c12b0
  obtain ⟨kq, x29_4, rfl, HA, HJ4, HB⟩ := hcut
  cases kq with
  | zero => exact absurd HA.out (by simp [dancestudiolaw07_WireSizes.j0])
  | succ kj4 =>
   have H := HA.out
   clear HA
   simp only [dancestudiolaw07_WireSizes.j0] at H
   by_cases c13 : x29_4 = true
   ·
    subst c13
    have H1 : (some false) = some r := by rw [if_pos rfl] at H; exact H
    clear H
    have H := H1
    clear H1
    obtain rfl := Option.some.inj H
    go_wp2
    go_ret
    exact ⟨by first | rfl | (simp [errW_none, errW_some] <;> rfl) | (simp [*, errW_none, errW_some] <;> rfl), by repeat (first | (with_reducible first | exact HB.out | apply below_alloc | apply pw_below_drewN | apply below_drew1) | exact HB.out)⟩
   ·
    replace c13 := Bool.eq_false_iff.mpr c13
    subst c13
    have H1 : (if a0 ≥ 0 then (if a1 ≥ a0 then (if (t452.length : Int) < (t449.length : Int) then (dancestudiolaw07_WireSizes.j1 kj4 true) else (if a0 < 0 then (if a1 ≤ a0 then (dancestudiolaw07_WireSizes.j1 kj4 (decide ((t452.length : Int) < (t449.length : Int)))) else (dancestudiolaw07_WireSizes.j1 kj4 false)) else (dancestudiolaw07_WireSizes.j1 kj4 false))) else (if a0 < 0 then (if a1 ≤ a0 then (dancestudiolaw07_WireSizes.j1 kj4 (decide ((t452.length : Int) < (t449.length : Int)))) else (dancestudiolaw07_WireSizes.j1 kj4 false)) else (dancestudiolaw07_WireSizes.j1 kj4 false))) else (if a0 < 0 then (if a1 ≤ a0 then (dancestudiolaw07_WireSizes.j1 kj4 (decide ((t452.length : Int) < (t449.length : Int)))) else (dancestudiolaw07_WireSizes.j1 kj4 false)) else (dancestudiolaw07_WireSizes.j1 kj4 false))) = some r := by rw [if_neg (show ¬ (false = true) by decide)] at H; exact H
    clear H
    have H := H1
    clear H1
    have HC14 := Aside0.mk H
    clear H
    go_upto_region 4 with (fail)
    go_cut [55] (fun v55 wc => ∃ (kq : Nat) (x55_13 : Bool), v55 = .bool x55_13 ∧ Aside0 (dancestudiolaw07_WireSizes.j1 kq x55_13 = some r) ∧ Aside0 (kq ≤ kj4) ∧ Aside0 (Below w.heap.size w wc))
    case first =>
     have H := HC14.out
     clear HC14
     by_cases c15 : a0 ≥ 0
     ·
      rw [if_pos c15] at H
      have c15b0 : decide (0 ≤ a0) = true := decide_eq_true c15
      clear c15
      (first | rw [c15b0] | (simp only [i64_w, i32_w]; rw [c15b0]) | skip)
      by_cases c16 : a1 ≥ a0
      ·
       rw [if_pos c16] at H
       have c16b0 : decide (a0 ≤ a1) = true := decide_eq_true c16
       clear c16
       by_cases c17 : (t452.length : Int) < (t449.length : Int)
       ·
        rw [if_pos c17] at H
        have c17b0 : decide ((t452.length : Int) < (t449.length : Int)) = true := decide_eq_true c17
        have c17b1 : decide (t452.length < t449.length) = true := decide_eq_true (Int.ofNat_lt.mp c17)
        clear c17
        have H' := Aside0.mk H
        clear H
        go_wp2
        go_meet
        case rel => exact ⟨_, (true), (by first | rfl | (simp; done) | (simp [*]; done)), H', ⟨by have := HJ4.out; first | omega | exact Nat.le_refl _⟩, ⟨by repeat (first | (with_reducible first | exact HB.out | apply below_alloc | apply pw_below_drewN | apply below_drew1) | exact HB.out)⟩⟩
       ·
        rw [if_neg c17] at H
        have c17b0 : decide ((t452.length : Int) < (t449.length : Int)) = false := decide_eq_false c17
        have c17b1 : decide (t452.length < t449.length) = false := decide_eq_false (fun h => c17 (Int.ofNat_lt.mpr h))
        clear c17
        by_cases c18 : a0 < 0
        ·
         rw [if_pos c18] at H
         have c18b0 : decide (a0 < 0) = true := decide_eq_true c18
         clear c18
         by_cases c19 : a1 ≤ a0
         ·
          rw [if_pos c19] at H
          have c19b0 : decide (a1 ≤ a0) = true := decide_eq_true c19
          clear c19
          have H' := Aside0.mk H
          clear H
          go_wp2
          go_meet
          case rel => exact ⟨_, (decide ((t452.length : Int) < (t449.length : Int))), (by first | rfl | (simp; done) | (simp [*]; done)), H', ⟨by have := HJ4.out; first | omega | exact Nat.le_refl _⟩, ⟨by repeat (first | (with_reducible first | exact HB.out | apply below_alloc | apply pw_below_drewN | apply below_drew1) | exact HB.out)⟩⟩
         ·
          rw [if_neg c19] at H
          have c19b0 : decide (a1 ≤ a0) = false := decide_eq_false c19
          clear c19
          have H' := Aside0.mk H
          clear H
          go_wp2
          go_meet
          case rel => exact ⟨_, (false), (by first | rfl | (simp; done) | (simp [*]; done)), H', ⟨by have := HJ4.out; first | omega | exact Nat.le_refl _⟩, ⟨by repeat (first | (with_reducible first | exact HB.out | apply below_alloc | apply pw_below_drewN | apply below_drew1) | exact HB.out)⟩⟩
        ·
         rw [if_neg c18] at H
         have c18b0 : decide (a0 < 0) = false := decide_eq_false c18
         clear c18
         have H' := Aside0.mk H
         clear H
         go_wp2
         go_meet
         case rel => exact ⟨_, (false), (by first | rfl | (simp; done) | (simp [*]; done)), H', ⟨by have := HJ4.out; first | omega | exact Nat.le_refl _⟩, ⟨by repeat (first | (with_reducible first | exact HB.out | apply below_alloc | apply pw_below_drewN | apply below_drew1) | exact HB.out)⟩⟩
      ·
       rw [if_neg c16] at H
       have c16b0 : decide (a0 ≤ a1) = false := decide_eq_false c16
       clear c16
       by_cases c20 : a0 < 0
       ·
        rw [if_pos c20] at H
        have c20b0 : decide (a0 < 0) = true := decide_eq_true c20
        clear c20
        by_cases c21 : a1 ≤ a0
        ·
         rw [if_pos c21] at H
         have c21b0 : decide (a1 ≤ a0) = true := decide_eq_true c21
         clear c21
         have H' := Aside0.mk H
         clear H
         go_wp2
         go_meet
         case rel => exact ⟨_, (decide ((t452.length : Int) < (t449.length : Int))), (by first | rfl | (simp; done) | (simp [*]; done)), H', ⟨by have := HJ4.out; first | omega | exact Nat.le_refl _⟩, ⟨by repeat (first | (with_reducible first | exact HB.out | apply below_alloc | apply pw_below_drewN | apply below_drew1) | exact HB.out)⟩⟩
        ·
         rw [if_neg c21] at H
         have c21b0 : decide (a1 ≤ a0) = false := decide_eq_false c21
         clear c21
         have H' := Aside0.mk H
         clear H
         go_wp2
         go_meet
         case rel => exact ⟨_, (false), (by first | rfl | (simp; done) | (simp [*]; done)), H', ⟨by have := HJ4.out; first | omega | exact Nat.le_refl _⟩, ⟨by repeat (first | (with_reducible first | exact HB.out | apply below_alloc | apply pw_below_drewN | apply below_drew1) | exact HB.out)⟩⟩
       ·
        rw [if_neg c20] at H
        have c20b0 : decide (a0 < 0) = false := decide_eq_false c20
        clear c20
        have H' := Aside0.mk H
        clear H
        go_wp2
        go_meet
        case rel => exact ⟨_, (false), (by first | rfl | (simp; done) | (simp [*]; done)), H', ⟨by have := HJ4.out; first | omega | exact Nat.le_refl _⟩, ⟨by repeat (first | (with_reducible first | exact HB.out | apply below_alloc | apply pw_below_drewN | apply below_drew1) | exact HB.out)⟩⟩
     ·
      rw [if_neg c15] at H
      have c15b0 : decide (0 ≤ a0) = false := decide_eq_false c15
      clear c15
      (first | rw [c15b0] | (simp only [i64_w, i32_w]; rw [c15b0]) | skip)
      by_cases c22 : a0 < 0
      ·
       rw [if_pos c22] at H
       have c22b0 : decide (a0 < 0) = true := decide_eq_true c22
       clear c22
       by_cases c23 : a1 ≤ a0
       ·
        rw [if_pos c23] at H
        have c23b0 : decide (a1 ≤ a0) = true := decide_eq_true c23
        clear c23
        have H' := Aside0.mk H
        clear H
        go_wp2
        go_meet
        case rel => exact ⟨_, (decide ((t452.length : Int) < (t449.length : Int))), (by first | rfl | (simp; done) | (simp [*]; done)), H', ⟨by have := HJ4.out; first | omega | exact Nat.le_refl _⟩, ⟨by repeat (first | (with_reducible first | exact HB.out | apply below_alloc | apply pw_below_drewN | apply below_drew1) | exact HB.out)⟩⟩
       ·
        rw [if_neg c23] at H
        have c23b0 : decide (a1 ≤ a0) = false := decide_eq_false c23
        clear c23
        have H' := Aside0.mk H
        clear H
        go_wp2
        go_meet
        case rel => exact ⟨_, (false), (by first | rfl | (simp; done) | (simp [*]; done)), H', ⟨by have := HJ4.out; first | omega | exact Nat.le_refl _⟩, ⟨by repeat (first | (with_reducible first | exact HB.out | apply below_alloc | apply pw_below_drewN | apply below_drew1) | exact HB.out)⟩⟩
      ·
       rw [if_neg c22] at H
       have c22b0 : decide (a0 < 0) = false := decide_eq_false c22
       clear c22
       have H' := Aside0.mk H
       clear H
       go_wp2
       go_meet
       case rel => exact ⟨_, (false), (by first | rfl | (simp; done) | (simp [*]; done)), H', ⟨by have := HJ4.out; first | omega | exact Nat.le_refl _⟩, ⟨by repeat (first | (with_reducible first | exact HB.out | apply below_alloc | apply pw_below_drewN | apply below_drew1) | exact HB.out)⟩⟩
    case rest =>
     clear HC14
     try clear c1
     try clear c2
     try clear p2
     try clear c9
     try clear c10
     try clear c10b0
     try clear c10b1
     try clear c11
     try clear c11b0
     try clear c11b1
     try clear c12
     try clear c12b0
     try clear c13
     try clear c14
     try clear c15
     try clear c15b0
     try clear c16
     try clear c16b0
     try clear c17
     try clear c17b0
     try clear c17b1
     try clear c18
     try clear c18b0
     try clear c19
     try clear c19b0
     try clear c20
     try clear c20b0
     try clear c21
     try clear c21b0
     try clear c22
     try clear c22b0
     try clear c23
     try clear c23b0
     try clear p2
     obtain ⟨kq, x55_13, rfl, HA, HJ13, HB⟩ := hcut
     cases kq with
     | zero => exact absurd HA.out (by simp [dancestudiolaw07_WireSizes.j1])
     | succ kj13 =>
      have H := HA.out
      clear HA
      simp only [dancestudiolaw07_WireSizes.j1] at H
      by_cases c24 : x55_13 = true
      ·
       subst c24
       have H1 : (some false) = some r := by rw [if_pos rfl] at H; exact H
       clear H
       have H := H1
       clear H1
       obtain rfl := Option.some.inj H
       go_wp2
       go_ret
       exact ⟨by first | rfl | (simp [errW_none, errW_some] <;> rfl) | (simp [*, errW_none, errW_some] <;> rfl), by repeat (first | (with_reducible first | exact HB.out | apply below_alloc | apply pw_below_drewN | apply below_drew1) | exact HB.out)⟩
      ·
       replace c24 := Bool.eq_false_iff.mpr c24
       subst c24
       have H1 : ((dancestudiolaw07_awake.f kj13).bind fun t455 => (some t455)) = some r := by rw [if_neg (show ¬ (false = true) by decide)] at H; exact H
       clear H
       have H := H1
       clear H1
       replace H := Option.bind_eq_some_iff.mp H
       obtain ⟨t455, A250, H⟩ := H
       replace H : (some t455) = some r := H
       have A25 := Aside0.mk A250
       clear A250
       obtain rfl := Option.some.inj H
       go_wp2_with (first | ((with_reducible refine gate_callee (f := 17) rfl ?_); refine goesL_ (some 56) rfl rfl Try.func17 (by kernel_rfl) rfl #[] rfl (by (try simp only [List.map_toArray, List.map_cons, List.map_nil]); first | done | rfl | (simp only [List.length_drop, List.length_take]; rfl)) ?_; (with_reducible refine (dancestudiolaw07_awake.calls kj13  t455 _ A25.out).mono ?_); rintro e w26 ⟨rfl, hb⟩; refine ⟨_, rfl, ?_⟩; have n0_ := Aside0.mk (below_step (by repeat (first | (with_reducible first | exact HB.out | apply below_alloc | apply pw_below_drewN | apply below_drew1) | exact HB.out)) hb); clear HB; have HB := n0_; clear n0_; (try clear hb); (try clear hb2); (try clear hk); (try clear hi)))
       go_ret
       exact ⟨by first | rfl | (simp [errW_none, errW_some] <;> rfl) | (simp [*, errW_none, errW_some] <;> rfl), by repeat (first | (with_reducible first | exact HB.out | apply below_alloc | apply pw_below_drewN | apply below_drew1) | exact HB.out)⟩

/-- THE ONE PURE STATEMENT of dancestudiolaw07_WireSizes: yours. -/
def dancestudiolaw07_WireSizes.Pure : Prop := ∀ (a0 : Int) (a1 : Int), (Lit.int .i64 a0).wf = true → (Lit.int .i64 a1).wf = true → ∃ k, dancestudiolaw07_WireSizes.f k a0 a1 = some true
theorem dancestudiolaw07_WireSizes.walk (P : dancestudiolaw07_WireSizes.Pure) (a0 : Int) (a1 : Int) (w : World) (w0 : (Lit.int .i64 a0).wf = true) (w1 : (Lit.int .i64 a1).wf = true) :
  Calls Try.prog 9 #[.int .i64 a0, .int .i64 a1] w fun e w' => e = .returned (.bool true) ∧ Below w.heap.size w w' := by
 obtain ⟨k, h⟩ := P a0 a1 w0 w1
 refine (dancestudiolaw07_WireSizes.calls k a0 a1 true w h).mono ?_
 rintro e w' ⟨rfl, hd⟩
 exact ⟨rfl, hd⟩

-- NOT PRINTED: function 10 (dancestudiolaw07_WireMemory)

end Go.Proofs.Ytmmnhokejadgaaa.X
