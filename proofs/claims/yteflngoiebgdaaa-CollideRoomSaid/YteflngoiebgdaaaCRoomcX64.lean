import Derived.Test.YteflngoiebgdaaaCRoomcX0
import Derived.Test.YteflngoiebgdaaaCRoomcX2
import Derived.Test.YteflngoiebgdaaaCRoomcX28
import Derived.Test.YteflngoiebgdaaaCRoomcX34
import Derived.Test.YteflngoiebgdaaaCRoomcX63
namespace Go.Proofs.Yteflngoiebgdaaa.X
open Go.RowKit YteflngoiebgdaaaW.PrintWords YteflngoiebgdaaaW.PrintLast YteflngoiebgdaaaW.PrintMore
attribute [local go_sem] max2_int min2_int max_two min_two max_three min_three max_four min_four
set_option linter.unusedVariables false
set_option linter.unusedSimpArgs false

/-! ### dancestudiolaw44_CollideRoom: function 5 -/
def dancestudiolaw44_CollideRoom.f (k : Nat) (l0 : List (S43)) (l1 : List Int) (l2 : List (S62)) (a3 : Int) : Option (Bool) := (dancestudioref44_Light.f k l0 l2).bind fun t582 => (if t582 = true then ((collide_Room.f k l0 l1 l2 a3).bind fun bt583 => ((dancestudioref44_Room.f k l0 l1 l2 a3).bind fun bt585 => (if bt583.1 = bt585.1 then (if bt583.2 = bt585.2 then ((dancestudiolaw44_awake.f k).bind fun t587 => (some t587)) else (none)) else (none)))) else ((dancestudiolaw44_awake.f k).bind fun t588 => (some t588)))
theorem dancestudiolaw44_CollideRoom.mono : ∀ a0 a1 a2 a3 k, LeO (dancestudiolaw44_CollideRoom.f k a0 a1 a2 a3) (dancestudiolaw44_CollideRoom.f (k + 1) a0 a1 a2 a3) := by
 intro a0 a1 a2 a3 k
 unfold dancestudiolaw44_CollideRoom.f
 repeat' first
   | (with_reducible exact collide_Room.mono _ _ _ _ _)
   | (with_reducible exact dancestudiolaw44_awake.mono _)
   | (with_reducible exact dancestudioref44_Light.mono _ _ _)
   | (with_reducible exact dancestudioref44_Room.mono _ _ _ _ _)
   | (with_reducible exact LeO.refl _)
   | (with_reducible exact LeO.none _)
   | (with_reducible refine LeO.ite ?_ ?_)
   | (with_reducible refine LeO.bind ?_ (fun _ => ?_))
   | exact collide_Room.mono _ _ _ _ _
   | exact dancestudiolaw44_awake.mono _
   | exact dancestudioref44_Light.mono _ _ _
   | exact dancestudioref44_Room.mono _ _ _ _ _
   | exact LeO.none _
   | refine LeO.ite ?_ ?_
   | refine LeO.bind ?_ (fun _ => ?_)
set_option maxHeartbeats 8000000 in
set_option maxRecDepth 100000 in
theorem dancestudiolaw44_CollideRoom.calls (k : Nat) (A0 : Option Addr) (c0 : Nat) (l0 : List (S43)) (A1 : Option Addr) (c1 : Nat) (l1 : List Int) (A2 : Option Addr) (c2 : Nat) (l2 : List (S62)) (a3 : Int) (r : Bool) (w : World) (hr0 : Kd.C k43 w A0 l0.length l0) (hc0 : l0.length ≤ c0) (hr1 : Kd.C (Kd.int .i64) w A1 l1.length l1) (hc1 : l1.length ≤ c1) (hr2 : Kd.C k62 w A2 l2.length l2) (hc2 : l2.length ≤ c2) (h : dancestudiolaw44_CollideRoom.f k l0 l1 l2 a3 = some r) :
  Calls Try.prog 5 #[.slice A0 l0.length c0, .slice A1 l1.length c1, .slice A2 l2.length c2, .int .i64 a3] w fun e w' => e = .returned (.bool r) ∧ Below w.heap.size w w' := by
 have HR0 := am hr0
 have HC0 := am hc0
 clear hr0 hc0
 have HR1 := am hr1
 have HC1 := am hc1
 clear hr1 hc1
 have HR2 := am hr2
 have HC2 := am hc2
 clear hr2 hc2
 have HB := am (Below.refl w.heap.size w)
 have H : ((dancestudioref44_Light.f k l0 l2).bind fun t582 => (if t582 = true then ((collide_Room.f k l0 l1 l2 a3).bind fun bt583 => ((dancestudioref44_Room.f k l0 l1 l2 a3).bind fun bt585 => (if bt583.1 = bt585.1 then (if bt583.2 = bt585.2 then ((dancestudiolaw44_awake.f k).bind fun t587 => (some t587)) else (none)) else (none)))) else ((dancestudiolaw44_awake.f k).bind fun t588 => (some t588)))) = some r := h
 clear h
 replace H := Option.bind_eq_some_iff.mp H
 obtain ⟨t582, A50, H⟩ := H
 replace H : (if t582 = true then ((collide_Room.f k l0 l1 l2 a3).bind fun bt583 => ((dancestudioref44_Room.f k l0 l1 l2 a3).bind fun bt585 => (if bt583.1 = bt585.1 then (if bt583.2 = bt585.2 then ((dancestudiolaw44_awake.f k).bind fun t587 => (some t587)) else (none)) else (none)))) else ((dancestudiolaw44_awake.f k).bind fun t588 => (some t588))) = some r := H
 have A5 := am A50
 clear A50
 by_cases c6 : t582 = true
 ·
  subst c6
  have H1 : ((collide_Room.f k l0 l1 l2 a3).bind fun bt583 => ((dancestudioref44_Room.f k l0 l1 l2 a3).bind fun bt585 => (if bt583.1 = bt585.1 then (if bt583.2 = bt585.2 then ((dancestudiolaw44_awake.f k).bind fun t587 => (some t587)) else (none)) else (none)))) = some r := by rw [if_pos rfl] at H; exact H
  clear H
  have H := H1
  clear H1
  replace H := Option.bind_eq_some_iff.mp H
  obtain ⟨⟨t583, t584⟩, A70, H⟩ := H
  replace H : ((dancestudioref44_Room.f k l0 l1 l2 a3).bind fun bt585 => (if t583 = bt585.1 then (if t584 = bt585.2 then ((dancestudiolaw44_awake.f k).bind fun t587 => (some t587)) else (none)) else (none))) = some r := H
  have A7 := am A70
  clear A70
  replace H := Option.bind_eq_some_iff.mp H
  obtain ⟨⟨t585, t586⟩, A80, H⟩ := H
  replace H : (if t583 = t585 then (if t584 = t586 then ((dancestudiolaw44_awake.f k).bind fun t587 => (some t587)) else (none)) else (none)) = some r := H
  have A8 := am A80
  clear A80
  by_cases c9 : t583 = t585; rotate_left
  · rw [if_neg c9] at H; exact absurd H (by simp)
  rw [if_pos c9] at H
  have c9b0 : (t583 == t585) = true := beq_iff_eq.mpr c9
  have c9b1 : (t583 != t585) = false := bne_eq_false_iff_eq.mpr c9
  clear c9
  by_cases c10 : t584 = t586; rotate_left
  · rw [if_neg c10] at H; exact absurd H (by simp)
  rw [if_pos c10] at H
  have c10b0 : (t584 == t586) = true := beq_iff_eq.mpr c10
  have c10b1 : (t584 != t586) = false := bne_eq_false_iff_eq.mpr c10
  clear c10
  replace H := Option.bind_eq_some_iff.mp H
  obtain ⟨t587, A110, H⟩ := H
  replace H : (some t587) = some r := H
  have A11 := am A110
  clear A110
  obtain rfl := Option.some.inj H
  go_enter Try.func5, Try.ntmps5
  go_wp2_with (first | ((with_reducible refine gate_callee (f := 11) rfl ?_); refine goesL_ (some 15) rfl rfl Try.func11 qz rfl #[.slice A0 l0.length c0, .slice A2 l2.length c2] rfl mz ?_; (with_reducible refine (dancestudioref44_Light.calls k _ _ l0 _ _ l2 true _ ?side1 ?side2 ?side3 ?side4 A5.out).mono ?_); (case side1 => repeat (first | exact HR0.out | (with_reducible first | apply cA | apply cN | apply cD))); (case side2 => exact HC0.out); (case side3 => repeat (first | exact HR2.out | (with_reducible first | apply cA | apply cN | apply cD))); (case side4 => exact HC2.out); rintro e w' ⟨rfl, ⟨nd, rfl⟩⟩; refine ⟨_, rfl, ?_⟩) | ((with_reducible refine gate_callee (f := 17) rfl ?_); refine goesL_ (some 23) rfl rfl Try.func17 qz rfl #[.slice A0 l0.length c0, .slice A1 l1.length c1, .slice A2 l2.length c2, .int .i64 a3] rfl mz ?_; (with_reducible refine (collide_Room.calls k _ _ l0 _ _ l1 _ _ l2 a3 t583 t584 _ ?side1 ?side2 ?side3 ?side4 ?side5 ?side6 A7.out).mono ?_); (case side1 => repeat (first | exact HR0.out | (with_reducible first | apply cA | apply cN | apply cD))); (case side2 => exact HC0.out); (case side3 => repeat (first | exact HR1.out | (with_reducible first | apply cA | apply cN | apply cD))); (case side4 => exact HC1.out); (case side5 => repeat (first | exact HR2.out | (with_reducible first | apply cA | apply cN | apply cD))); (case side6 => exact HC2.out); rintro e w12 ⟨rfl, hb⟩; refine ⟨_, rfl, ?_⟩; replace HB := am (below_step bz hb); (try clear hb); (try clear hb2); (try clear hk); (try clear hi)) | ((with_reducible refine gate_callee (f := 21) rfl ?_); refine goesL_ (some 31) rfl rfl Try.func21 qz rfl #[.slice A0 l0.length c0, .slice A1 l1.length c1, .slice A2 l2.length c2, .int .i64 a3] rfl mz ?_; (with_reducible refine (dancestudioref44_Room.calls k _ _ l0 _ _ l1 _ _ l2 a3 t585 t586 _ ?side1 ?side2 ?side3 ?side4 ?side5 ?side6 A8.out).mono ?_); (case side1 => exact cz HR0); (case side2 => exact HC0.out); (case side3 => exact cz HR1); (case side4 => exact HC1.out); (case side5 => exact cz HR2); (case side6 => exact HC2.out); rintro e w13 ⟨rfl, hb⟩; refine ⟨_, rfl, ?_⟩; replace HB := am (below_step bz hb); (try clear hb); (try clear hb2); (try clear hk); (try clear hi)) | (go_at_call 12; (with_reducible refine (dancestudiolaw44_awake.calls k  t587 _ A11.out).mono ?_); rintro e w14 ⟨rfl, hb⟩; replace HB := am (below_step bz hb); (try clear hb); (try clear hb2); (try clear hk); (try clear hi)))
  go_ret
  exact ⟨ez, bz⟩
 ·
  replace c6 := Bool.eq_false_iff.mpr c6
  subst c6
  have H1 : ((dancestudiolaw44_awake.f k).bind fun t588 => (some t588)) = some r := by rw [if_neg (show ¬ (false = true) by decide)] at H; exact H
  clear H
  have H := H1
  clear H1
  replace H := Option.bind_eq_some_iff.mp H
  obtain ⟨t588, A150, H⟩ := H
  replace H : (some t588) = some r := H
  have A15 := am A150
  clear A150
  obtain rfl := Option.some.inj H
  go_enter Try.func5, Try.ntmps5
  go_wp2_with (first | ((with_reducible refine gate_callee (f := 11) rfl ?_); refine goesL_ (some 15) rfl rfl Try.func11 qz rfl #[.slice A0 l0.length c0, .slice A2 l2.length c2] rfl mz ?_; (with_reducible refine (dancestudioref44_Light.calls k _ _ l0 _ _ l2 false _ ?side1 ?side2 ?side3 ?side4 A5.out).mono ?_); (case side1 => repeat (first | exact HR0.out | (with_reducible first | apply cA | apply cN | apply cD))); (case side2 => exact HC0.out); (case side3 => repeat (first | exact HR2.out | (with_reducible first | apply cA | apply cN | apply cD))); (case side4 => exact HC2.out); rintro e w' ⟨rfl, ⟨nd, rfl⟩⟩; refine ⟨_, rfl, ?_⟩) | ((with_reducible refine gate_callee (f := 12) rfl ?_); refine goesL_ (some 17) rfl rfl Try.func12 qz rfl #[] rfl mz ?_; (with_reducible refine (dancestudiolaw44_awake.calls k  t588 _ A15.out).mono ?_); rintro e w16 ⟨rfl, hb⟩; refine ⟨_, rfl, ?_⟩; replace HB := am (below_step bz hb); (try clear hb); (try clear hb2); (try clear hk); (try clear hi)))
  go_ret
  exact ⟨ez, bz⟩

end Go.Proofs.Yteflngoiebgdaaa.X
