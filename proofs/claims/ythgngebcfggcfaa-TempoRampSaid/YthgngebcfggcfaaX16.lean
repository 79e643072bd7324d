-- written by xprint.py, an own overlay over the kit's print; not trusted: Lean checks it
import Derived.Test.YthgngebcfggcfaaX0
import Derived.Test.YthgngebcfggcfaaX13
namespace Go.Proofs.Ythgngebcfggcfaa.X
open Go.RowKit Go.Proofs.YthgngebcfggcfaaW.PrintWords Go.Proofs.YthgngebcfggcfaaW.PrintLast Go.Proofs.YthgngebcfggcfaaW.PrintMore
attribute [local go_sem] max2_int min2_int max_two min_two max_three min_three max_four min_four   -- for this text's walks alone
set_option linter.unusedVariables false
set_option linter.unusedSimpArgs false

/-! ### num_Lerp: function 37 -/
def num_Lerp.f (a0 : Int) (a1 : Int) (a2 : Int) (a3 : Int) : Option (Int × Int) := if a0 < (-1048576) then (some (0, 1)) else (if a0 > 1048576 then (some (0, 1)) else (if a1 < (-1048576) then (some (0, 1)) else (if a1 > 1048576 then (some (0, 1)) else (if a3 < 1 then (some (0, 1)) else (if a3 > 524288 then (some (0, 1)) else (if a2 < 0 then (some (0, 1)) else (if a2 > a3 then (some (0, 1)) else ((num_nearest.f (wrap64 ((wrap64 (a0 * (wrap64 (a3 - a2)))) + (wrap64 (a1 * a2)))) a3).bind fun t139 => (some (t139, 0))))))))))
set_option maxHeartbeats 8000000 in
set_option maxRecDepth 100000 in
theorem num_Lerp.calls (a0 : Int) (a1 : Int) (a2 : Int) (a3 : Int) (r1 : Int) (r2 : Int) (w : World) (h : num_Lerp.f a0 a1 a2 a3 = some (r1, r2)) :
  Calls Try.prog 37 #[.int .i64 a0, .int .i64 a1, .int .i64 a2, .int .i64 a3] w fun e w' => e = .returned (.tuple #[.int .i64 r1, .int .i64 r2]) ∧ Drawn0 w w' := by
 have H : (if a0 < (-1048576) then (some (0, 1)) else (if a0 > 1048576 then (some (0, 1)) else (if a1 < (-1048576) then (some (0, 1)) else (if a1 > 1048576 then (some (0, 1)) else (if a3 < 1 then (some (0, 1)) else (if a3 > 524288 then (some (0, 1)) else (if a2 < 0 then (some (0, 1)) else (if a2 > a3 then (some (0, 1)) else ((num_nearest.f (wrap64 ((wrap64 (a0 * (wrap64 (a3 - a2)))) + (wrap64 (a1 * a2)))) a3).bind fun t139 => (some (t139, 0))))))))))) = some (r1, r2) := h
 clear h
 by_cases c5 : a0 < (-1048576)
 ·
  rw [if_pos c5] at H
  have c5b0 : decide (a0 < (-1048576)) = true := decide_eq_true c5
  clear c5
  simp only [Option.some.injEq, Prod.mk.injEq] at H
  obtain ⟨rfl, rfl⟩ := H
  go_enter Try.func37, Try.ntmps37
  go_wp2
  go_ret2
  exact ⟨by first | rfl | (simp; done) | (simp [*]; done), by repeat (first | exact Drawn0.refl _ | apply Drawn0.step)⟩
 ·
  rw [if_neg c5] at H
  have c5b0 : decide (a0 < (-1048576)) = false := decide_eq_false c5
  clear c5
  by_cases c6 : a0 > 1048576
  ·
   rw [if_pos c6] at H
   have c6b0 : decide (1048576 < a0) = true := decide_eq_true c6
   clear c6
   simp only [Option.some.injEq, Prod.mk.injEq] at H
   obtain ⟨rfl, rfl⟩ := H
   go_enter Try.func37, Try.ntmps37
   go_wp2
   go_ret2
   exact ⟨by first | rfl | (simp; done) | (simp [*]; done), by repeat (first | exact Drawn0.refl _ | apply Drawn0.step)⟩
  ·
   rw [if_neg c6] at H
   have c6b0 : decide (1048576 < a0) = false := decide_eq_false c6
   clear c6
   by_cases c7 : a1 < (-1048576)
   ·
    rw [if_pos c7] at H
    have c7b0 : decide (a1 < (-1048576)) = true := decide_eq_true c7
    clear c7
    simp only [Option.some.injEq, Prod.mk.injEq] at H
    obtain ⟨rfl, rfl⟩ := H
    go_enter Try.func37, Try.ntmps37
    go_wp2
    go_ret2
    exact ⟨by first | rfl | (simp; done) | (simp [*]; done), by repeat (first | exact Drawn0.refl _ | apply Drawn0.step)⟩
   ·
    rw [if_neg c7] at H
    have c7b0 : decide (a1 < (-1048576)) = false := decide_eq_false c7
    clear c7
    by_cases c8 : a1 > 1048576
    ·
     rw [if_pos c8] at H
     have c8b0 : decide (1048576 < a1) = true := decide_eq_true c8
     clear c8
     simp only [Option.some.injEq, Prod.mk.injEq] at H
     obtain ⟨rfl, rfl⟩ := H
     go_enter Try.func37, Try.ntmps37
     go_wp2
     go_ret2
     exact ⟨by first | rfl | (simp; done) | (simp [*]; done), by repeat (first | exact Drawn0.refl _ | apply Drawn0.step)⟩
    ·
     rw [if_neg c8] at H
     have c8b0 : decide (1048576 < a1) = false := decide_eq_false c8
     clear c8
     by_cases c9 : a3 < 1
     ·
      rw [if_pos c9] at H
      have c9b0 : decide (a3 < 1) = true := decide_eq_true c9
      clear c9
      simp only [Option.some.injEq, Prod.mk.injEq] at H
      obtain ⟨rfl, rfl⟩ := H
      go_enter Try.func37, Try.ntmps37
      go_wp2
      go_ret2
      exact ⟨by first | rfl | (simp; done) | (simp [*]; done), by repeat (first | exact Drawn0.refl _ | apply Drawn0.step)⟩
     ·
      rw [if_neg c9] at H
      have c9b0 : decide (a3 < 1) = false := decide_eq_false c9
      clear c9
      by_cases c10 : a3 > 524288
      ·
       rw [if_pos c10] at H
       have c10b0 : decide (524288 < a3) = true := decide_eq_true c10
       clear c10
       simp only [Option.some.injEq, Prod.mk.injEq] at H
       obtain ⟨rfl, rfl⟩ := H
       go_enter Try.func37, Try.ntmps37
       go_wp2
       go_ret2
       exact ⟨by first | rfl | (simp; done) | (simp [*]; done), by repeat (first | exact Drawn0.refl _ | apply Drawn0.step)⟩
      ·
       rw [if_neg c10] at H
       have c10b0 : decide (524288 < a3) = false := decide_eq_false c10
       clear c10
       by_cases c11 : a2 < 0
       ·
        rw [if_pos c11] at H
        have c11b0 : decide (a2 < 0) = true := decide_eq_true c11
        clear c11
        simp only [Option.some.injEq, Prod.mk.injEq] at H
        obtain ⟨rfl, rfl⟩ := H
        go_enter Try.func37, Try.ntmps37
        go_wp2
        go_ret2
        exact ⟨by first | rfl | (simp; done) | (simp [*]; done), by repeat (first | exact Drawn0.refl _ | apply Drawn0.step)⟩
       ·
        rw [if_neg c11] at H
        have c11b0 : decide (a2 < 0) = false := decide_eq_false c11
        clear c11
        by_cases c12 : a2 > a3
        ·
         rw [if_pos c12] at H
         have c12b0 : decide (a3 < a2) = true := decide_eq_true c12
         clear c12
         simp only [Option.some.injEq, Prod.mk.injEq] at H
         obtain ⟨rfl, rfl⟩ := H
         go_enter Try.func37, Try.ntmps37
         go_wp2
         go_ret2
         exact ⟨by first | rfl | (simp; done) | (simp [*]; done), by repeat (first | exact Drawn0.refl _ | apply Drawn0.step)⟩
        ·
         rw [if_neg c12] at H
         have c12b0 : decide (a3 < a2) = false := decide_eq_false c12
         clear c12
         replace H := Option.bind_eq_some_iff.mp H
         obtain ⟨t139, A130, H⟩ := H
         replace H : (some (t139, 0)) = some (r1, r2) := H
         have A13 := Aside0.mk A130
         clear A130
         simp only [Option.some.injEq, Prod.mk.injEq] at H
         obtain ⟨rfl, rfl⟩ := H
         go_enter Try.func37, Try.ntmps37
         go_wp2_with (first | ((with_reducible refine gate_callee (f := 41) rfl ?_); refine goesL_ (some 51) rfl rfl Try.func41 (by kernel_rfl) rfl #[.int .i64 (wrap64 ((wrap64 (a0 * (wrap64 (a3 - a2)))) + (wrap64 (a1 * a2)))), .int .i64 a3] rfl (by (try simp only [List.map_toArray, List.map_cons, List.map_nil]); first | done | rfl | (simp only [List.length_drop, List.length_take]; rfl)) ?_; (with_reducible refine (num_nearest.calls (wrap64 ((wrap64 (a0 * (wrap64 (a3 - a2)))) + (wrap64 (a1 * a2)))) a3 t139 _ A13.out).mono ?_); rintro e w' ⟨rfl, ⟨nd, rfl⟩⟩; refine ⟨_, rfl, ?_⟩))
         go_ret2
         exact ⟨by first | rfl | (simp; done) | (simp [*]; done), by repeat (first | exact Drawn0.refl _ | apply Drawn0.step)⟩

end Go.Proofs.Ythgngebcfggcfaa.X
