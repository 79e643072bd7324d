import Derived.Test.YtmdmajfgpmopbaaX0
namespace Go.Proofs.Ytmdmajfgpmopbaa.X
open Go.RowKit YtmdmajfgpmopbaaW.PrintWords YtmdmajfgpmopbaaW.PrintLast YtmdmajfgpmopbaaW.PrintMore
attribute [local go_sem] max2_int min2_int max_two min_two max_three min_three max_four min_four
set_option linter.unusedVariables false
set_option linter.unusedSimpArgs false

/-! ### stage_on: function 36 -/
def stage_on.f (a0_0 a0_1 : Int) (l0_2 : List S64) (a1_0 a1_1 a2 : Int) : Option (Bool) :=
  if wrap64 (Int.tdiv (wrap64 (-a0_0)) 2) ≤ wrap64 (a1_0 - a2) then (if wrap64 (a1_0 + a2) ≤ wrap64 (Int.tdiv a0_0 2) then (if 0 ≤ wrap64 (a1_1 - a2) then (some (decide (wrap64 (a1_1 + a2) ≤ a0_1))) else (some false)) else (some false)) else (some false)
set_option maxHeartbeats 8000000 in
set_option maxRecDepth 100000 in
theorem stage_on.calls (a0_0 a0_1 : Int) (A0_2 : Option Addr) (c0_2 : Nat) (l0_2 : List S64) (a1_0 a1_1 a2 : Int) (r : Bool) (w : World) (hr0_2 : Kd.C k64 w A0_2 l0_2.length l0_2) (hc0_2 : l0_2.length ≤ c0_2) (h : stage_on.f a0_0 a0_1 l0_2 a1_0 a1_1 a2 = some r) :
    Calls Try.prog 36 #[.agg #[.int .i64 a0_0, .int .i64 a0_1, .slice A0_2 l0_2.length c0_2], .agg #[.int .i64 a1_0, .int .i64 a1_1], .int .i64 a2] w fun e w' => e = .returned (.bool r) ∧ Below w.heap.size w w' := by
  clear hr0_2 hc0_2
  have H := am h
  clear h
  have hmf : ∀ (fn : Fn) (first cap : Array Value) (w : World), (Instr.makeFunc fn first cap).run Try.prog w = .ok (.func fn first cap) w := fun _ _ _ _ => rfl
  by_cases t1 : wrap64 (Int.tdiv (wrap64 (-a0_0)) 2) ≤ wrap64 (a1_0 - a2)
  · have b1 : decide (wrap64 (Int.tdiv (wrap64 (-a0_0)) 2) ≤ wrap64 (a1_0 - a2)) = true := decide_eq_true t1
    by_cases t2 : wrap64 (a1_0 + a2) ≤ wrap64 (Int.tdiv a0_0 2)
    · have b2 : decide (wrap64 (a1_0 + a2) ≤ wrap64 (Int.tdiv a0_0 2)) = true := decide_eq_true t2
      by_cases t3 : 0 ≤ wrap64 (a1_1 - a2)
      · have b3 : decide (0 ≤ wrap64 (a1_1 - a2)) = true := decide_eq_true t3
        have hr := H.out
        unfold stage_on.f at hr
        rw [if_pos t1, if_pos t2, if_pos t3] at hr
        obtain rfl := Option.some.inj hr
        clear hr H t1 t2 t3
        by_cases t4 : wrap64 (a1_1 + a2) ≤ a0_1
        · have b4 : decide (wrap64 (a1_1 + a2) ≤ a0_1) = true := decide_eq_true t4
          rw [b4]
          clear t4
          go_enter Try.func36, Try.ntmps36
          go_wp2_with fail
          go_rounds 5
          go_ret
          exact ⟨rfl, by repeat (first | exact Below.refl _ _ | apply below_alloc)⟩
        · have b4 : decide (wrap64 (a1_1 + a2) ≤ a0_1) = false := decide_eq_false t4
          rw [b4]
          clear t4
          go_enter Try.func36, Try.ntmps36
          go_wp2_with fail
          go_rounds 5
          go_ret
          exact ⟨rfl, by repeat (first | exact Below.refl _ _ | apply below_alloc)⟩
      · have b3 : decide (0 ≤ wrap64 (a1_1 - a2)) = false := decide_eq_false t3
        have hr := H.out
        unfold stage_on.f at hr
        rw [if_pos t1, if_pos t2, if_neg t3] at hr
        obtain rfl := Option.some.inj hr
        clear hr H t1 t2 t3
        go_enter Try.func36, Try.ntmps36
        go_wp2_with fail
        go_rounds 5
        go_ret
        exact ⟨rfl, by repeat (first | exact Below.refl _ _ | apply below_alloc)⟩
    · have b2 : decide (wrap64 (a1_0 + a2) ≤ wrap64 (Int.tdiv a0_0 2)) = false := decide_eq_false t2
      have hr := H.out
      unfold stage_on.f at hr
      rw [if_pos t1, if_neg t2] at hr
      obtain rfl := Option.some.inj hr
      clear hr H t1 t2
      go_enter Try.func36, Try.ntmps36
      go_wp2_with fail
      go_rounds 5
      go_ret
      exact ⟨rfl, by repeat (first | exact Below.refl _ _ | apply below_alloc)⟩
  · have b1 : decide (wrap64 (Int.tdiv (wrap64 (-a0_0)) 2) ≤ wrap64 (a1_0 - a2)) = false := decide_eq_false t1
    have hr := H.out
    unfold stage_on.f at hr
    rw [if_neg t1] at hr
    obtain rfl := Option.some.inj hr
    clear hr H t1
    go_enter Try.func36, Try.ntmps36
    go_wp2_with fail
    go_rounds 5
    go_ret
    exact ⟨rfl, by repeat (first | exact Below.refl _ _ | apply below_alloc)⟩

end Go.Proofs.Ytmdmajfgpmopbaa.X
