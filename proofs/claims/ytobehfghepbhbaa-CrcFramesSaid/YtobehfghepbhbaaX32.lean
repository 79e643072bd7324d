-- written by xprint.py, an own overlay over the kit's print; not trusted: Lean checks it
import Derived.Test.YtobehfghepbhbaaX0
import Derived.Test.YtobehfghepbhbaaX6
import Derived.Test.YtobehfghepbhbaaX10
import Derived.Test.YtobehfghepbhbaaX11
import Derived.Test.YtobehfghepbhbaaX27
import Derived.Test.YtobehfghepbhbaaX29
import Derived.Test.YtobehfghepbhbaaX31
namespace Go.Proofs.Ytobehfghepbhbaa.X
open Go.RowKit Go.Proofs.YtobehfghepbhbaaW.PrintWords Go.Proofs.YtobehfghepbhbaaW.PrintLast Go.Proofs.YtobehfghepbhbaaW.PrintMore
attribute [local go_sem] max2_int min2_int max_two min_two max_three min_three max_four min_four   -- for this text's walks alone
set_option linter.unusedVariables false
set_option linter.unusedSimpArgs false

/-! ### dancestudiolaw08_CrcFrames: function 9 -/
mutual
def dancestudiolaw08_CrcFrames.l0 : Nat → List (List Int) → Int → Int → Int → List Int → List Int → Int → Option (Bool)
 | 0, _, _, _, _, _, _, _ => none
 | k + 1, x0, x1, x2, x3, x9, x10, x11 => if x11 < (x0.length : Int) then (if 0 ≤ x11 then ((crc_Frame.f k (rd_L1 x0 x11)).bind fun bt377 => (if bt377.2 = 0 then (if x10.length < 17592186044416 then (if x9.length + bt377.1.length < 140737488355328 then (dancestudiolaw08_CrcFrames.l0 k x0 x1 x2 x3 (x9 ++ bt377.1) (x10 ++ [(x9.length : Int)]) (wrap64 (x11 + 1))) else (none)) else (none)) else (some false))) else (none)) else ((crc_All.f k x9).bind fun bt387 => ((dancestudiolaw08_lists.f k bt387.1 x0).bind fun t391 => (if t391 = true then (dancestudiolaw08_CrcFrames.j1 k x0 x1 x2 x3 x9 x10 (bt387.2 != (x9.length : Int))) else (dancestudiolaw08_CrcFrames.j1 k x0 x1 x2 x3 x9 x10 true))))
def dancestudiolaw08_CrcFrames.j1 : Nat → List (List Int) → Int → Int → Int → List Int → List Int → Bool → Option (Bool)
 | 0, _, _, _, _, _, _, _ => none
 | k + 1, x0, x1, x2, x3, x9, x10, x62 => if x62 = true then (some false) else (if (x0.length : Int) = 0 then (dancestudiolaw08_CrcFrames.j2 k x0 x1 x2 x3 x9 x10 true) else (if x1 < 0 then (dancestudiolaw08_CrcFrames.j2 k x0 x1 x2 x3 x9 x10 true) else (if x1 ≥ (x0.length : Int) then (dancestudiolaw08_CrcFrames.j2 k x0 x1 x2 x3 x9 x10 true) else (dancestudiolaw08_CrcFrames.j2 k x0 x1 x2 x3 x9 x10 (x3 == 0)))))
def dancestudiolaw08_CrcFrames.j2 : Nat → List (List Int) → Int → Int → Int → List Int → List Int → Bool → Option (Bool)
 | 0, _, _, _, _, _, _, _ => none
 | k + 1, x0, x1, x2, x3, x9, x10, x79 => if x79 = true then ((dancestudiolaw08_awake.f k).bind fun t392 => (some t392)) else (if 0 ≤ x1 then (if x1 < (x0.length : Int) then (if ((rd_L1 x0 x1).length : Int) ≥ 64 then (dancestudiolaw08_CrcFrames.j3 k x0 x1 x2 x3 x9 x10 2) else (dancestudiolaw08_CrcFrames.j3 k x0 x1 x2 x3 x9 x10 1)) else (none)) else (none))
def dancestudiolaw08_CrcFrames.j3 : Nat → List (List Int) → Int → Int → Int → List Int → List Int → Int → Option (Bool)
 | 0, _, _, _, _, _, _, _ => none
 | k + 1, x0, x1, x2, x3, x9, x10, x16 => if x2 < 0 then (dancestudiolaw08_CrcFrames.j4 k x0 x1 x2 x3 x9 x10 x16 true) else (if 0 ≤ x1 then (if x1 < (x0.length : Int) then (dancestudiolaw08_CrcFrames.j4 k x0 x1 x2 x3 x9 x10 x16 (decide (x2 ≥ (wrap64 (4 + ((rd_L1 x0 x1).length : Int)))))) else (none)) else (none))
def dancestudiolaw08_CrcFrames.j4 : Nat → List (List Int) → Int → Int → Int → List Int → List Int → Int → Bool → Option (Bool)
 | 0, _, _, _, _, _, _, _, _ => none
 | k + 1, x0, x1, x2, x3, x9, x10, x16, x98 => if x98 = true then ((dancestudiolaw08_awake.f k).bind fun t395 => (some t395)) else (if 0 ≤ x1 then (if x1 < (x10.length : Int) then (if (wrap64 ((wrap64 ((rd x10 x1) + x16)) + x2)) ≥ (x9.length : Int) then (some false) else (if 0 ≤ (wrap64 ((wrap64 ((rd x10 x1) + x16)) + x2)) then (if (wrap64 ((wrap64 ((rd x10 x1) + x16)) + x2)) < (x9.length : Int) then ((some (x9.set ((wrap64 ((wrap64 ((rd x10 x1) + x16)) + x2)) : Int).toNat (Go.bits .xor .u8 (rd x9 (wrap64 ((wrap64 ((rd x10 x1) + x16)) + x2))) x3) : List Int)).bind fun y398 => (if 0 ≤ (rd x10 x1) then (if (rd x10 x1) ≤ (x9.length : Int) then ((crc_Open.f k (y398.drop ((rd x10 x1) : Int).toNat)).bind fun bt404 => ((crc_All.f k y398).bind fun bt409 => (if bt404.2.2 = 14 then (if x1 ≤ (x0.length : Int) then ((dancestudiolaw08_lists.f k bt409.1 (x0.take (x1 : Int).toNat)).bind fun t417 => (if t417 = true then (if bt409.2 = (rd x10 x1) then ((dancestudiolaw08_awake.f k).bind fun t419 => (some t419)) else (some false)) else (some false))) else (none)) else (some false)))) else (none)) else (none))) else (none)) else (none))) else (none)) else (none))
end
def dancestudiolaw08_CrcFrames.f (k : Nat) (l0 : List (List Int)) (a1 : Int) (a2 : Int) (a3 : Int) : Option (Bool) := (dancestudiolaw08_great.f k l0).bind fun t374 => (if t374 = true then ((dancestudiolaw08_awake.f k).bind fun t375 => (some t375)) else (dancestudiolaw08_CrcFrames.l0 k l0 a1 a2 a3 ([] : List Int) ([] : List Int) 0))
theorem dancestudiolaw08_CrcFrames.mono_l : ∀ k, (∀ y0 y1 y2 y3 y4 y5 y6, LeO (dancestudiolaw08_CrcFrames.l0 k y0 y1 y2 y3 y4 y5 y6) (dancestudiolaw08_CrcFrames.l0 (k + 1) y0 y1 y2 y3 y4 y5 y6)) ∧ (∀ y0 y1 y2 y3 y4 y5 y6, LeO (dancestudiolaw08_CrcFrames.j1 k y0 y1 y2 y3 y4 y5 y6) (dancestudiolaw08_CrcFrames.j1 (k + 1) y0 y1 y2 y3 y4 y5 y6)) ∧ (∀ y0 y1 y2 y3 y4 y5 y6, LeO (dancestudiolaw08_CrcFrames.j2 k y0 y1 y2 y3 y4 y5 y6) (dancestudiolaw08_CrcFrames.j2 (k + 1) y0 y1 y2 y3 y4 y5 y6)) ∧ (∀ y0 y1 y2 y3 y4 y5 y6, LeO (dancestudiolaw08_CrcFrames.j3 k y0 y1 y2 y3 y4 y5 y6) (dancestudiolaw08_CrcFrames.j3 (k + 1) y0 y1 y2 y3 y4 y5 y6)) ∧ (∀ y0 y1 y2 y3 y4 y5 y6 y7, LeO (dancestudiolaw08_CrcFrames.j4 k y0 y1 y2 y3 y4 y5 y6 y7) (dancestudiolaw08_CrcFrames.j4 (k + 1) y0 y1 y2 y3 y4 y5 y6 y7))
 | 0 => ⟨fun _ _ _ _ _ _ _ r h => by simp [dancestudiolaw08_CrcFrames.l0] at h, fun _ _ _ _ _ _ _ r h => by simp [dancestudiolaw08_CrcFrames.j1] at h, fun _ _ _ _ _ _ _ r h => by simp [dancestudiolaw08_CrcFrames.j2] at h, fun _ _ _ _ _ _ _ r h => by simp [dancestudiolaw08_CrcFrames.j3] at h, fun _ _ _ _ _ _ _ _ r h => by simp [dancestudiolaw08_CrcFrames.j4] at h⟩
 | k + 1 => by
  obtain ⟨ih0, ih1, ih2, ih3, ih4⟩ := dancestudiolaw08_CrcFrames.mono_l k
  refine ⟨?_, ?_, ?_, ?_, ?_⟩
  ·
   intro y0 y1 y2 y3 y4 y5 y6
   unfold dancestudiolaw08_CrcFrames.l0
   repeat' first
   | (with_reducible exact ih0 _ _ _ _ _ _ _)
   | (with_reducible exact ih1 _ _ _ _ _ _ _)
   | (with_reducible exact ih2 _ _ _ _ _ _ _)
   | (with_reducible exact ih3 _ _ _ _ _ _ _)
   | (with_reducible exact ih4 _ _ _ _ _ _ _ _)
   | (with_reducible exact crc_All.mono _ _)
   | (with_reducible exact crc_Frame.mono _ _)
   | (with_reducible exact crc_Open.mono _ _)
   | (with_reducible exact dancestudiolaw08_awake.mono _)
   | (with_reducible exact dancestudiolaw08_great.mono _ _)
   | (with_reducible exact dancestudiolaw08_lists.mono _ _ _)
   | (with_reducible exact LeO.refl _)
   | (with_reducible exact LeO.none _)
   | (with_reducible refine LeO.ite ?_ ?_)
   | (with_reducible refine LeO.bind ?_ (fun _ => ?_))
   | exact ih0 _ _ _ _ _ _ _
   | exact ih1 _ _ _ _ _ _ _
   | exact ih2 _ _ _ _ _ _ _
   | exact ih3 _ _ _ _ _ _ _
   | exact ih4 _ _ _ _ _ _ _ _
   | exact crc_All.mono _ _
   | exact crc_Frame.mono _ _
   | exact crc_Open.mono _ _
   | exact dancestudiolaw08_awake.mono _
   | exact dancestudiolaw08_great.mono _ _
   | exact dancestudiolaw08_lists.mono _ _ _
   | exact LeO.none _
   | refine LeO.ite ?_ ?_
   | refine LeO.bind ?_ (fun _ => ?_)
  ·
   intro y0 y1 y2 y3 y4 y5 y6
   unfold dancestudiolaw08_CrcFrames.j1
   repeat' first
   | (with_reducible exact ih0 _ _ _ _ _ _ _)
   | (with_reducible exact ih1 _ _ _ _ _ _ _)
   | (with_reducible exact ih2 _ _ _ _ _ _ _)
   | (with_reducible exact ih3 _ _ _ _ _ _ _)
   | (with_reducible exact ih4 _ _ _ _ _ _ _ _)
   | (with_reducible exact crc_All.mono _ _)
   | (with_reducible exact crc_Frame.mono _ _)
   | (with_reducible exact crc_Open.mono _ _)
   | (with_reducible exact dancestudiolaw08_awake.mono _)
   | (with_reducible exact dancestudiolaw08_great.mono _ _)
   | (with_reducible exact dancestudiolaw08_lists.mono _ _ _)
   | (with_reducible exact LeO.refl _)
   | (with_reducible exact LeO.none _)
   | (with_reducible refine LeO.ite ?_ ?_)
   | (with_reducible refine LeO.bind ?_ (fun _ => ?_))
   | exact ih0 _ _ _ _ _ _ _
   | exact ih1 _ _ _ _ _ _ _
   | exact ih2 _ _ _ _ _ _ _
   | exact ih3 _ _ _ _ _ _ _
   | exact ih4 _ _ _ _ _ _ _ _
   | exact crc_All.mono _ _
   | exact crc_Frame.mono _ _
   | exact crc_Open.mono _ _
   | exact dancestudiolaw08_awake.mono _
   | exact dancestudiolaw08_great.mono _ _
   | exact dancestudiolaw08_lists.mono _ _ _
   | exact LeO.none _
   | refine LeO.ite ?_ ?_
   | refine LeO.bind ?_ (fun _ => ?_)
  ·
   intro y0 y1 y2 y3 y4 y5 y6
   unfold dancestudiolaw08_CrcFrames.j2
   repeat' first
   | (with_reducible exact ih0 _ _ _ _ _ _ _)
   | (with_reducible exact ih1 _ _ _ _ _ _ _)
   | (with_reducible exact ih2 _ _ _ _ _ _ _)
   | (with_reducible exact ih3 _ _ _ _ _ _ _)
   | (with_reducible exact ih4 _ _ _ _ _ _ _ _)
   | (with_reducible exact crc_All.mono _ _)
   | (with_reducible exact crc_Frame.mono _ _)
   | (with_reducible exact crc_Open.mono _ _)
   | (with_reducible exact dancestudiolaw08_awake.mono _)
   | (with_reducible exact dancestudiolaw08_great.mono _ _)
   | (with_reducible exact dancestudiolaw08_lists.mono _ _ _)
   | (with_reducible exact LeO.refl _)
   | (with_reducible exact LeO.none _)
   | (with_reducible refine LeO.ite ?_ ?_)
   | (with_reducible refine LeO.bind ?_ (fun _ => ?_))
   | exact ih0 _ _ _ _ _ _ _
   | exact ih1 _ _ _ _ _ _ _
   | exact ih2 _ _ _ _ _ _ _
   | exact ih3 _ _ _ _ _ _ _
   | exact ih4 _ _ _ _ _ _ _ _
   | exact crc_All.mono _ _
   | exact crc_Frame.mono _ _
   | exact crc_Open.mono _ _
   | exact dancestudiolaw08_awake.mono _
   | exact dancestudiolaw08_great.mono _ _
   | exact dancestudiolaw08_lists.mono _ _ _
   | exact LeO.none _
   | refine LeO.ite ?_ ?_
   | refine LeO.bind ?_ (fun _ => ?_)
  ·
   intro y0 y1 y2 y3 y4 y5 y6
   unfold dancestudiolaw08_CrcFrames.j3
   repeat' first
   | (with_reducible exact ih0 _ _ _ _ _ _ _)
   | (with_reducible exact ih1 _ _ _ _ _ _ _)
   | (with_reducible exact ih2 _ _ _ _ _ _ _)
   | (with_reducible exact ih3 _ _ _ _ _ _ _)
   | (with_reducible exact ih4 _ _ _ _ _ _ _ _)
   | (with_reducible exact crc_All.mono _ _)
   | (with_reducible exact crc_Frame.mono _ _)
   | (with_reducible exact crc_Open.mono _ _)
   | (with_reducible exact dancestudiolaw08_awake.mono _)
   | (with_reducible exact dancestudiolaw08_great.mono _ _)
   | (with_reducible exact dancestudiolaw08_lists.mono _ _ _)
   | (with_reducible exact LeO.refl _)
   | (with_reducible exact LeO.none _)
   | (with_reducible refine LeO.ite ?_ ?_)
   | (with_reducible refine LeO.bind ?_ (fun _ => ?_))
   | exact ih0 _ _ _ _ _ _ _
   | exact ih1 _ _ _ _ _ _ _
   | exact ih2 _ _ _ _ _ _ _
   | exact ih3 _ _ _ _ _ _ _
   | exact ih4 _ _ _ _ _ _ _ _
   | exact crc_All.mono _ _
   | exact crc_Frame.mono _ _
   | exact crc_Open.mono _ _
   | exact dancestudiolaw08_awake.mono _
   | exact dancestudiolaw08_great.mono _ _
   | exact dancestudiolaw08_lists.mono _ _ _
   | exact LeO.none _
   | refine LeO.ite ?_ ?_
   | refine LeO.bind ?_ (fun _ => ?_)
  ·
   intro y0 y1 y2 y3 y4 y5 y6 y7
   unfold dancestudiolaw08_CrcFrames.j4
   repeat' first
   | (with_reducible exact ih0 _ _ _ _ _ _ _)
   | (with_reducible exact ih1 _ _ _ _ _ _ _)
   | (with_reducible exact ih2 _ _ _ _ _ _ _)
   | (with_reducible exact ih3 _ _ _ _ _ _ _)
   | (with_reducible exact ih4 _ _ _ _ _ _ _ _)
   | (with_reducible exact crc_All.mono _ _)
   | (with_reducible exact crc_Frame.mono _ _)
   | (with_reducible exact crc_Open.mono _ _)
   | (with_reducible exact dancestudiolaw08_awake.mono _)
   | (with_reducible exact dancestudiolaw08_great.mono _ _)
   | (with_reducible exact dancestudiolaw08_lists.mono _ _ _)
   | (with_reducible exact LeO.refl _)
   | (with_reducible exact LeO.none _)
   | (with_reducible refine LeO.ite ?_ ?_)
   | (with_reducible refine LeO.bind ?_ (fun _ => ?_))
   | exact ih0 _ _ _ _ _ _ _
   | exact ih1 _ _ _ _ _ _ _
   | exact ih2 _ _ _ _ _ _ _
   | exact ih3 _ _ _ _ _ _ _
   | exact ih4 _ _ _ _ _ _ _ _
   | exact crc_All.mono _ _
   | exact crc_Frame.mono _ _
   | exact crc_Open.mono _ _
   | exact dancestudiolaw08_awake.mono _
   | exact dancestudiolaw08_great.mono _ _
   | exact dancestudiolaw08_lists.mono _ _ _
   | exact LeO.none _
   | refine LeO.ite ?_ ?_
   | refine LeO.bind ?_ (fun _ => ?_)
theorem dancestudiolaw08_CrcFrames.mono : ∀ a0 a1 a2 a3 k, LeO (dancestudiolaw08_CrcFrames.f k a0 a1 a2 a3) (dancestudiolaw08_CrcFrames.f (k + 1) a0 a1 a2 a3) := by
 intro a0 a1 a2 a3 k
 obtain ⟨ih0, ih1, ih2, ih3, ih4⟩ := dancestudiolaw08_CrcFrames.mono_l k
 unfold dancestudiolaw08_CrcFrames.f
 repeat' first
   | (with_reducible exact ih0 _ _ _ _ _ _ _)
   | (with_reducible exact ih1 _ _ _ _ _ _ _)
   | (with_reducible exact ih2 _ _ _ _ _ _ _)
   | (with_reducible exact ih3 _ _ _ _ _ _ _)
   | (with_reducible exact ih4 _ _ _ _ _ _ _ _)
   | (with_reducible exact crc_All.mono _ _)
   | (with_reducible exact crc_Frame.mono _ _)
   | (with_reducible exact crc_Open.mono _ _)
   | (with_reducible exact dancestudiolaw08_awake.mono _)
   | (with_reducible exact dancestudiolaw08_great.mono _ _)
   | (with_reducible exact dancestudiolaw08_lists.mono _ _ _)
   | (with_reducible exact LeO.refl _)
   | (with_reducible exact LeO.none _)
   | (with_reducible refine LeO.ite ?_ ?_)
   | (with_reducible refine LeO.bind ?_ (fun _ => ?_))
   | exact ih0 _ _ _ _ _ _ _
   | exact ih1 _ _ _ _ _ _ _
   | exact ih2 _ _ _ _ _ _ _
   | exact ih3 _ _ _ _ _ _ _
   | exact ih4 _ _ _ _ _ _ _ _
   | exact crc_All.mono _ _
   | exact crc_Frame.mono _ _
   | exact crc_Open.mono _ _
   | exact dancestudiolaw08_awake.mono _
   | exact dancestudiolaw08_great.mono _ _
   | exact dancestudiolaw08_lists.mono _ _ _
   | exact LeO.none _
   | refine LeO.ite ?_ ?_
   | refine LeO.bind ?_ (fun _ => ?_)
set_option maxHeartbeats 8000000 in
set_option maxRecDepth 100000 in
theorem dancestudiolaw08_CrcFrames.calls (k : Nat) (A0 : Option Addr) (c0 : Nat) (l0 : List (List Int)) (a1 : Int) (a2 : Int) (a3 : Int) (r : Bool) (w : World) (hr0 : Kd.C (Kd.slice 5 (Kd.int .u8)) w A0 l0.length l0) (hc0 : l0.length ≤ c0) (h : dancestudiolaw08_CrcFrames.f k l0 a1 a2 a3 = some r) :
  Calls Try.prog 9 #[.slice A0 l0.length c0, .int .i64 a1, .int .i64 a2, .int .u8 a3] w fun e w' => e = .returned (.bool r) ∧ Below w.heap.size w w' := by
 have HR0 := Aside0.mk hr0
 have HC0 := Aside0.mk hc0
 clear hr0 hc0
 have HB := Aside0.mk (Below.refl w.heap.size w)
 have H : ((dancestudiolaw08_great.f k l0).bind fun t374 => (if t374 = true then ((dancestudiolaw08_awake.f k).bind fun t375 => (some t375)) else (dancestudiolaw08_CrcFrames.l0 k l0 a1 a2 a3 ([] : List Int) ([] : List Int) 0))) = some r := h
 clear h
 replace H := Option.bind_eq_some_iff.mp H
 obtain ⟨t374, A50, H⟩ := H
 replace H : (if t374 = true then ((dancestudiolaw08_awake.f k).bind fun t375 => (some t375)) else (dancestudiolaw08_CrcFrames.l0 k l0 a1 a2 a3 ([] : List Int) ([] : List Int) 0)) = some r := H
 have A5 := Aside0.mk A50
 clear A50
 by_cases c6 : t374 = true
 ·
  subst c6
  have H1 : ((dancestudiolaw08_awake.f k).bind fun t375 => (some t375)) = some r := by rw [if_pos rfl] at H; exact H
  clear H
  have H := H1
  clear H1
  replace H := Option.bind_eq_some_iff.mp H
  obtain ⟨t375, A70, H⟩ := H
  replace H : (some t375) = some r := H
  have A7 := Aside0.mk A70
  clear A70
  obtain rfl := Option.some.inj H
  go_enter Try.func9, Try.ntmps9
  go_wp2_with (first | ((with_reducible refine gate_callee (f := 24) rfl ?_); refine goesL_ (some 22) rfl rfl Try.func24 (by kernel_rfl) rfl #[.slice A0 l0.length c0] rfl (by (try simp only [List.map_toArray, List.map_cons, List.map_nil]); first | done | rfl | (simp only [List.length_drop, List.length_take]; rfl)) ?_; (with_reducible refine (dancestudiolaw08_great.calls k _ _ l0 true _ ?side1 ?side2 A5.out).mono ?_); (case side1 => repeat (first | exact HR0.out | (with_reducible refine Kd.C_alloc ?_ _) | (with_reducible refine Kd.C_drewN ?_ _) | (with_reducible refine Kd.C_drew ?_))); (case side2 => exact HC0.out); rintro e w' ⟨rfl, ⟨nd, rfl⟩⟩; refine ⟨_, rfl, ?_⟩) | ((with_reducible refine gate_callee (f := 11) rfl ?_); refine goesL_ (some 23) rfl rfl Try.func11 (by kernel_rfl) rfl #[] rfl (by (try simp only [List.map_toArray, List.map_cons, List.map_nil]); first | done | rfl | (simp only [List.length_drop, List.length_take]; rfl)) ?_; (with_reducible refine (dancestudiolaw08_awake.calls k  t375 _ A7.out).mono ?_); rintro e w8 ⟨rfl, hb⟩; refine ⟨_, rfl, ?_⟩; have n0_ := Aside0.mk (below_step (by repeat (first | (with_reducible first | exact HB.out | apply below_alloc | apply pw_below_drewN | apply below_drew1) | exact HB.out)) hb); clear HB; have HB := n0_; clear n0_; (try clear hb); (try clear hb2); (try clear hk); (try clear hi)))
  go_ret
  exact ⟨by first | rfl | (simp [errW_none, errW_some] <;> rfl) | (simp [*, errW_none, errW_some] <;> rfl), by repeat (first | (with_reducible first | exact HB.out | apply below_alloc | apply pw_below_drewN | apply below_drew1) | exact HB.out)⟩
 ·
  replace c6 := Bool.eq_false_iff.mpr c6
  subst c6
  have H1 : (dancestudiolaw08_CrcFrames.l0 k l0 a1 a2 a3 ([] : List Int) ([] : List Int) 0) = some r := by rw [if_neg (show ¬ (false = true) by decide)] at H; exact H
  clear H
  have H := H1
  clear H1
  have H' := Aside0.mk H
  clear H
  go_enter Try.func9, Try.ntmps9
  go_wp2_with (first | ((with_reducible refine gate_callee (f := 24) rfl ?_); refine goesL_ (some 22) rfl rfl Try.func24 (by kernel_rfl) rfl #[.slice A0 l0.length c0] rfl (by (try simp only [List.map_toArray, List.map_cons, List.map_nil]); first | done | rfl | (simp only [List.length_drop, List.length_take]; rfl)) ?_; (with_reducible refine (dancestudiolaw08_great.calls k _ _ l0 false _ ?side1 ?side2 A5.out).mono ?_); (case side1 => repeat (first | exact HR0.out | (with_reducible refine Kd.C_alloc ?_ _) | (with_reducible refine Kd.C_drewN ?_ _) | (with_reducible refine Kd.C_drew ?_))); (case side2 => exact HC0.out); rintro e w' ⟨rfl, ⟨nd, rfl⟩⟩; refine ⟨_, rfl, ?_⟩))
  go_loopg [9, 10, 11] k (fun kq v9 v10 v11 w' => ∃ (x9_1 : List Int) (x10_1 : List Int) (x11_1 : Int), v11 = .int .i64 x11_1 ∧ Aside0 (dancestudiolaw08_CrcFrames.l0 kq l0 a1 a2 a3 x9_1 x10_1 x11_1 = some r) ∧ Aside0 (kq ≤ k) ∧ Aside0 (Kd.R (Kd.int .u8) 5 w' w.heap.size (fun _ => True) v9 x9_1) ∧ Aside0 (Kd.R (Kd.int .i64) 3 w' w.heap.size (fun _ => True) v10 x10_1) ∧ Aside0 (Below w.heap.size w w'))
  case atStart => exact ⟨(([] : List Int)), (([] : List Int)), (0), (by first | rfl | (simp; done) | (simp [*]; done)), H', ⟨Nat.le_refl _⟩, ⟨by first | exact Kd.R_nil _ _ _ _ _ | exact Kd.N_nil _ _ _ _ _ | exact Kd.V_nil _ _ _ _ _ | exact Kd.Q_nil _ _ _ _ _ | exact Kd.S_nil _ _ _ _ _⟩, ⟨by first | exact Kd.R_nil _ _ _ _ _ | exact Kd.N_nil _ _ _ _ _ | exact Kd.V_nil _ _ _ _ _ | exact Kd.Q_nil _ _ _ _ _ | exact Kd.S_nil _ _ _ _ _⟩, ⟨by repeat (first | (with_reducible first | exact HB.out | apply below_alloc | apply pw_below_drewN | apply below_drew1) | exact HB.out)⟩⟩
  case round =>
   clear H'
   try clear c1
   try clear c2
   try clear p2
   try clear c6
   obtain ⟨x9_1, x10_1, x11_1, rfl, HA, HK1, HO_9, HO_10, HB⟩ := hrel
   cases gk with
   | zero => exact absurd HA.out (by simp [dancestudiolaw08_CrcFrames.l0])
   | succ k1 =>
    have H := HA.out
    clear HA
    simp only [dancestudiolaw08_CrcFrames.l0] at H
    by_cases c9 : x11_1 < (l0.length : Int)
    ·
     rw [if_pos c9] at H
     have c9b0 : decide (x11_1 < (l0.length : Int)) = true := decide_eq_true c9
     clear c9
     by_cases c10 : 0 ≤ x11_1
     ·
      rw [if_pos c10] at H
      have c10b0 : decide (0 ≤ x11_1) = true := decide_eq_true c10
      clear c10
      replace H := Option.bind_eq_some_iff.mp H
      obtain ⟨⟨t377, t378⟩, A110, H⟩ := H
      replace H : (if t378 = 0 then (if x10_1.length < 17592186044416 then (if x9_1.length + t377.length < 140737488355328 then (dancestudiolaw08_CrcFrames.l0 k1 l0 a1 a2 a3 (x9_1 ++ t377) (x10_1 ++ [(x9_1.length : Int)]) (wrap64 (x11_1 + 1))) else (none)) else (none)) else (some false)) = some r := H
      have A11 := Aside0.mk A110
      clear A110
      by_cases c12 : t378 = 0
      ·
       rw [if_pos c12] at H
       have c12b0 : (t378 == 0) = true := beq_iff_eq.mpr c12
       have c12b1 : (t378 != 0) = false := bne_eq_false_iff_eq.mpr c12
       clear c12
       by_cases c13 : x10_1.length < 17592186044416
       ·
        rw [if_pos c13] at H
        have LMc13 := Aside0.mk c13
        clear c13
        obtain ⟨y381, hy381⟩ : ∃ y_ : List Int, y_ = (x10_1 ++ [(x9_1.length : Int)]) := ⟨_, rfl⟩
        replace H : (if x9_1.length + t377.length < 140737488355328 then (dancestudiolaw08_CrcFrames.l0 k1 l0 a1 a2 a3 (x9_1 ++ t377) y381 (wrap64 (x11_1 + 1))) else (none)) = some r := by first | (rw [hy381]; with_reducible exact H) | (have H2_ := (Option.bind_some _ _).symm.trans H; rw [hy381]; with_reducible exact H2_) | (have H2_ := (Option.bind_some _ _).symm.trans H; with_reducible exact H2_) | with_reducible exact H | (rw [hy381]; exact H) | exact H
        have Ny381 := Aside0.mk hy381
        clear hy381
        by_cases c14 : x9_1.length + t377.length < 140737488355328
        ·
         rw [if_pos c14] at H
         have LMc14 := Aside0.mk c14
         clear c14
         obtain ⟨y384, hy384⟩ : ∃ y_ : List Int, y_ = (x9_1 ++ t377) := ⟨_, rfl⟩
         replace H : (dancestudiolaw08_CrcFrames.l0 k1 l0 a1 a2 a3 y384 y381 (wrap64 (x11_1 + 1))) = some r := by first | (rw [hy384]; with_reducible exact H) | (have H2_ := (Option.bind_some _ _).symm.trans H; rw [hy384]; with_reducible exact H2_) | (have H2_ := (Option.bind_some _ _).symm.trans H; with_reducible exact H2_) | with_reducible exact H | (rw [hy384]; exact H) | exact H
         have Ny384 := Aside0.mk hy384
         clear hy384
         have H' := Aside0.mk H
         clear H
         have p376 : 0 ≤ (x11_1 : Int) := of_decide_eq_true (by first | (with_reducible assumption) | assumption)
         have q376 : x11_1 < (l0.length : Int) := of_decide_eq_true (by first | (with_reducible assumption) | assumption)
         obtain ⟨ad376, A376_0, c376_0, e376, hx376_0, hl376_0, hi376_0⟩ := at_L1 HR0.out x11_1 p376 q376
         cases e376
         replace hx376_0 := (HB.out.cell (World.block_lt_of_cell? w _ hx376_0)).trans hx376_0
         have HR376_0 := Aside0.mk hi376_0
         have HC376_0 := Aside0.mk hl376_0
         clear hi376_0 hl376_0
         replace p376 := eq_true p376
         replace q376 := eq_true q376
         go_wp2_with (first | ((with_reducible refine gate_callee (f := 16) rfl ?_); refine goesL_ (some 35) rfl rfl Try.func16 (by kernel_rfl) rfl #[.slice A376_0 (rd_L1 l0 x11_1).length c376_0] rfl (by (try simp only [List.map_toArray, List.map_cons, List.map_nil]); first | done | rfl | (simp only [List.length_drop, List.length_take]; rfl)) ?_; (with_reducible refine (crc_Frame.calls k1 _ _ (rd_L1 l0 x11_1) t377 t378 _ ?side1 ?side2 A11.out).mono ?_); (case side1 => repeat (first | exact (Kd.C_below HR376_0.out HB.out) | (with_reducible refine Kd.C_alloc ?_ _) | (with_reducible refine Kd.C_drewN ?_ _) | (with_reducible refine Kd.C_drew ?_))); (case side2 => exact HC376_0.out); rintro e w15 ⟨v379, rfl, ho0, hb⟩; refine ⟨_, rfl, ?_⟩; have n0_ := Aside0.mk (Kd.R_elder' (by (with_reducible repeat (first | apply Kd.R_alloc | apply Kd.R_drewN | apply Kd.R_drew)); exact HO_9.out) (Kd.R_base ho0) hb); have n1_ := Aside0.mk (Kd.R_below (by (with_reducible repeat (first | apply Kd.R_alloc | apply Kd.R_drewN | apply Kd.R_drew)); exact HO_10.out) hb); have n2_ := Aside0.mk (Kd.R_lower (Kd.R_new' ho0 (Kd.R_lt (by (with_reducible repeat (first | apply Kd.R_alloc | apply Kd.R_drewN | apply Kd.R_drew)); exact HO_9.out))) (below_size (by repeat (first | (with_reducible first | exact HB.out | apply below_alloc | apply pw_below_drewN | apply below_drew1) | exact HB.out)))); have n3_ := Aside0.mk (below_step (by repeat (first | (with_reducible first | exact HB.out | apply below_alloc | apply pw_below_drewN | apply below_drew1) | exact HB.out)) hb); clear HO_9; clear HO_10; clear HB; have HO_9 := n0_; have HO_10 := n1_; have HO380 := n2_; have HB := n3_; clear n0_ n1_ n2_ n3_; (try clear hb); (try clear hb2); (try clear hk); (try clear hi); (try clear ho0); obtain ⟨Ao16, co16, eo16⟩ := Kd.R_slice HO_9.out; subst eo16) | ((with_reducible refine gate_builtin (b := .append) (xs := #[.tmp 40, .tmp 43]) rfl ?_); at_builtin; refine Kd.R_append (Kd.int .i64) (w0 := w) w.heap.size rfl (.tmp 40) (.tmp 43) 43 3 (.int .i64 0) 8 rfl Try.underlying43 info3 rfl (by decide) (by omega) u10 x10_1 (x9_1.length : Int) [.int .i64 (x9_1.length : Int)] (fun _ => True) (fun _ => False) rfl rfl ?aP (fun _ hk => hk.elim) ?aF ?aO ?aB ?aS ?aL ?_; (case aP => exact rfl); (case aB => exact (by repeat (first | (with_reducible first | exact HB.out | apply below_alloc | apply pw_below_drewN | apply below_drew1) | exact HB.out))); (case aF => exact (fun _ _ => trivial)); (case aO => exact (by (with_reducible repeat (first | apply Kd.R_alloc | apply Kd.R_drewN | apply Kd.R_drew)); exact HO_10.out)); (case aS => exact (below_size (by repeat (first | (with_reducible first | exact HB.out | apply below_alloc | apply pw_below_drewN | apply below_drew1) | exact HB.out)))); (case aL => have := LMc13.out; omega); intro v382 w17 ho hb hg hat; rw [← Ny381.out] at ho; have n0_ := Aside0.mk (Kd.R_over' (by (with_reducible repeat (first | apply Kd.R_alloc | apply Kd.R_drewN | apply Kd.R_drew)); exact HO_9.out) (Kd.R_typed (by (with_reducible repeat (first | apply Kd.R_alloc | apply Kd.R_drewN | apply Kd.R_drew)); exact HO_10.out)) (by decide) hg); have n1_ := Aside0.mk (Kd.R_over' (by (with_reducible repeat (first | apply Kd.R_alloc | apply Kd.R_drewN | apply Kd.R_drew)); exact HO380.out) (Kd.R_typed (by (with_reducible repeat (first | apply Kd.R_alloc | apply Kd.R_drewN | apply Kd.R_drew)); exact HO_10.out)) (by decide) hg); have n2_ := Aside0.mk (hb); have n3_ := Aside0.mk (ho); clear HO_9; clear HO380; clear HB; clear HO_10; have HO_9 := n0_; have HO380 := n1_; have HB := n2_; have HO383 := n3_; clear n0_ n1_ n2_ n3_; clear ho hb hg hat; obtain ⟨Ao19, co19, eo19⟩ := Kd.R_slice HO380.out; subst eo19) | ((with_reducible refine gate_builtin (b := .append) (xs := #[.tmp 45, .tmp 46]) rfl ?_); at_builtin; refine Kd.R_append_rows (Kd.int .u8) (w0 := w) w.heap.size rfl (.tmp 45) (.tmp 46) 23 5 (.int .u8 0) 1 rfl Try.underlying23 info5 rfl (by decide) (by omega) (.slice Ao16 x9_1.length co16) x9_1 t377 _ _ _ (fun k_ => some k_ ≠ (.slice Ao19 t377.length co19 : Value).ownBlock) (fun _ => False) rfl rfl ?aO ?aR (fun _ _ h => h) (fun _ h => h.elim) ?aF ?aB ?aS ?aL ?_; (case aR => repeat (first | exact (Kd.R_reads' HO380.out).2.2 | (with_reducible refine Kd.C_alloc ?_ _) | (with_reducible refine Kd.C_drewN ?_ _) | (with_reducible refine Kd.C_drew ?_))); (case aB => exact (by repeat (first | (with_reducible first | exact HB.out | apply below_alloc | apply pw_below_drewN | apply below_drew1) | exact HB.out))); (case aF => exact (fun k_ hk => Kd.fresh' (Kd.R_lt (by (with_reducible repeat (first | apply Kd.R_alloc | apply Kd.R_drewN | apply Kd.R_drew)); exact HO380.out)) k_ hk)); (case aO => exact (by (with_reducible repeat (first | apply Kd.R_alloc | apply Kd.R_drewN | apply Kd.R_drew)); exact Kd.R_mono HO_9.out (fun _ hk => hk.2))); (case aS => exact (below_size (by repeat (first | (with_reducible first | exact HB.out | apply below_alloc | apply pw_below_drewN | apply below_drew1) | exact HB.out)))); (case aL => have := LMc14.out; omega); intro v385 w18 ho hb hg hat; rw [← Ny384.out] at ho; have n0_ := Aside0.mk (Kd.R_after (ok := (fun _ => True)) (by (with_reducible repeat (first | apply Kd.R_alloc | apply Kd.R_drewN | apply Kd.R_drew)); exact HO380.out) hg hat); have n1_ := Aside0.mk (Kd.R_over' (by (with_reducible repeat (first | apply Kd.R_alloc | apply Kd.R_drewN | apply Kd.R_drew)); exact HO383.out) (Kd.R_typed (by (with_reducible repeat (first | apply Kd.R_alloc | apply Kd.R_drewN | apply Kd.R_drew)); exact HO_9.out)) (by decide) hg); have n2_ := Aside0.mk (hb); have n3_ := Aside0.mk (ho); clear HO380; clear HO383; clear HB; clear HO_9; have HO380 := n0_; have HO383 := n1_; have HB := n2_; have HO386 := n3_; clear n0_ n1_ n2_ n3_; clear ho hb hg hat))
         go_roundg k1
         case measure => have := HK1.out; omega
         case rel => exact ⟨(y384), (y381), (wrap64 (x11_1 + 1)), (by first | rfl | (simp; done) | (simp [*]; done)), H', ⟨by have := HK1.out; omega⟩, ⟨by (with_reducible repeat (first | apply Kd.R_alloc | apply Kd.R_drewN | apply Kd.R_drew)); exact Kd.R_mono HO386.out (fun _ hk => trivial)⟩, ⟨by (with_reducible repeat (first | apply Kd.R_alloc | apply Kd.R_drewN | apply Kd.R_drew)); exact HO383.out⟩, ⟨by repeat (first | (with_reducible first | exact HB.out | apply below_alloc | apply pw_below_drewN | apply below_drew1) | exact HB.out)⟩⟩
        ·
         rw [if_neg c14] at H
         exact absurd H (by simp)
       ·
        rw [if_neg c13] at H
        exact absurd H (by simp)
      ·
       rw [if_neg c12] at H
       have c12b0 : (t378 == 0) = false := beq_eq_false_iff_ne.mpr c12
       have c12b1 : (t378 != 0) = true := bne_iff_ne.mpr c12
       obtain rfl := Option.some.inj H
       have p376 : 0 ≤ (x11_1 : Int) := of_decide_eq_true (by first | (with_reducible assumption) | assumption)
       have q376 : x11_1 < (l0.length : Int) := of_decide_eq_true (by first | (with_reducible assumption) | assumption)
       obtain ⟨ad376, A376_0, c376_0, e376, hx376_0, hl376_0, hi376_0⟩ := at_L1 HR0.out x11_1 p376 q376
       cases e376
       replace hx376_0 := (HB.out.cell (World.block_lt_of_cell? w _ hx376_0)).trans hx376_0
       have HR376_0 := Aside0.mk hi376_0
       have HC376_0 := Aside0.mk hl376_0
       clear hi376_0 hl376_0
       replace p376 := eq_true p376
       replace q376 := eq_true q376
       go_wp2_with (first | ((with_reducible refine gate_callee (f := 16) rfl ?_); refine goesL_ (some 35) rfl rfl Try.func16 (by kernel_rfl) rfl #[.slice A376_0 (rd_L1 l0 x11_1).length c376_0] rfl (by (try simp only [List.map_toArray, List.map_cons, List.map_nil]); first | done | rfl | (simp only [List.length_drop, List.length_take]; rfl)) ?_; (with_reducible refine (crc_Frame.calls k1 _ _ (rd_L1 l0 x11_1) t377 t378 _ ?side1 ?side2 A11.out).mono ?_); (case side1 => repeat (first | exact (Kd.C_below HR376_0.out HB.out) | (with_reducible refine Kd.C_alloc ?_ _) | (with_reducible refine Kd.C_drewN ?_ _) | (with_reducible refine Kd.C_drew ?_))); (case side2 => exact HC376_0.out); rintro e w20 ⟨v379, rfl, ho0, hb⟩; refine ⟨_, rfl, ?_⟩; have n0_ := Aside0.mk (Kd.R_elder' (by (with_reducible repeat (first | apply Kd.R_alloc | apply Kd.R_drewN | apply Kd.R_drew)); exact HO_9.out) (Kd.R_base ho0) hb); have n1_ := Aside0.mk (Kd.R_below (by (with_reducible repeat (first | apply Kd.R_alloc | apply Kd.R_drewN | apply Kd.R_drew)); exact HO_10.out) hb); have n2_ := Aside0.mk (Kd.R_lower (Kd.R_new' ho0 (Kd.R_lt (by (with_reducible repeat (first | apply Kd.R_alloc | apply Kd.R_drewN | apply Kd.R_drew)); exact HO_9.out))) (below_size (by repeat (first | (with_reducible first | exact HB.out | apply below_alloc | apply pw_below_drewN | apply below_drew1) | exact HB.out)))); have n3_ := Aside0.mk (below_step (by repeat (first | (with_reducible first | exact HB.out | apply below_alloc | apply pw_below_drewN | apply below_drew1) | exact HB.out)) hb); clear HO_9; clear HO_10; clear HB; have HO_9 := n0_; have HO_10 := n1_; have HO380 := n2_; have HB := n3_; clear n0_ n1_ n2_ n3_; (try clear hb); (try clear hb2); (try clear hk); (try clear hi); (try clear ho0)))
       go_ret
       exact ⟨by first | rfl | (simp [errW_none, errW_some] <;> rfl) | (simp [*, errW_none, errW_some] <;> rfl), by repeat (first | (with_reducible first | exact HB.out | apply below_alloc | apply pw_below_drewN | apply below_drew1) | exact HB.out)⟩
     ·
      rw [if_neg c10] at H
      exact absurd H (by simp)
    ·
     rw [if_neg c9] at H
     have c9b0 : decide (x11_1 < (l0.length : Int)) = false := decide_eq_false c9
     clear c9
     replace H := Option.bind_eq_some_iff.mp H
     obtain ⟨⟨t387, t388⟩, A210, H⟩ := H
     replace H : ((dancestudiolaw08_lists.f k1 t387 l0).bind fun t391 => (if t391 = true then (dancestudiolaw08_CrcFrames.j1 k1 l0 a1 a2 a3 x9_1 x10_1 (t388 != (x9_1.length : Int))) else (dancestudiolaw08_CrcFrames.j1 k1 l0 a1 a2 a3 x9_1 x10_1 true))) = some r := H
     have A21 := Aside0.mk A210
     clear A210
     have HC22 := Aside0.mk H
     clear H
     obtain ⟨Ao23, co23, eo23⟩ := Kd.R_slice HO_9.out
     subst eo23
     go_upto_region 14 with (first | ((with_reducible refine gate_callee (f := 21) rfl ?_); refine goesL_ (some 50) rfl rfl Try.func21 (by kernel_rfl) rfl #[.slice Ao23 x9_1.length co23] rfl (by (try simp only [List.map_toArray, List.map_cons, List.map_nil]); first | done | rfl | (simp only [List.length_drop, List.length_take]; rfl)) ?_; (with_reducible refine (crc_All.calls k1 _ _ x9_1 t387 t388 _ ?side1 ?side2 A21.out).mono ?_); (case side1 => repeat (first | exact (Kd.R_reads' HO_9.out).2.2 | (with_reducible refine Kd.C_alloc ?_ _) | (with_reducible refine Kd.C_drewN ?_ _) | (with_reducible refine Kd.C_drew ?_))); (case side2 => exact (Kd.R_reads' HO_9.out).2.1); rintro e w24 ⟨v389, rfl, ho0, hb⟩; refine ⟨_, rfl, ?_⟩; have n0_ := Aside0.mk (Kd.R_below (by (with_reducible repeat (first | apply Kd.R_alloc | apply Kd.R_drewN | apply Kd.R_drew)); exact HO_9.out) hb); have n1_ := Aside0.mk (Kd.R_below (by (with_reducible repeat (first | apply Kd.R_alloc | apply Kd.R_drewN | apply Kd.R_drew)); exact HO_10.out) hb); have n2_ := Aside0.mk (Kd.S_lower (Kd.S_new' ho0 (Kd.R_lt (by (with_reducible repeat (first | apply Kd.R_alloc | apply Kd.R_drewN | apply Kd.R_drew)); exact HO_9.out))) (below_size (by repeat (first | (with_reducible first | exact HB.out | apply below_alloc | apply pw_below_drewN | apply below_drew1) | exact HB.out)))); have n3_ := Aside0.mk (below_step (by repeat (first | (with_reducible first | exact HB.out | apply below_alloc | apply pw_below_drewN | apply below_drew1) | exact HB.out)) hb); clear HO_9; clear HO_10; clear HB; have HO_9 := n0_; have HO_10 := n1_; have HO390 := n2_; have HB := n3_; clear n0_ n1_ n2_ n3_; (try clear hb); (try clear hb2); (try clear hk); (try clear hi); (try clear ho0)))
     (try simp only [Act.put, List.setIfInBounds_toArray, List.set_cons_zero, List.set_cons_succ])
     go_cut [62] (fun v62 wc => ∃ (kq : Nat) (x62_21 : Bool), v62 = .bool x62_21 ∧ Aside0 (dancestudiolaw08_CrcFrames.j1 kq l0 a1 a2 a3 x9_1 x10_1 x62_21 = some r) ∧ Aside0 (kq ≤ k1) ∧ Aside0 (Kd.R (Kd.int .u8) 5 wc w.heap.size (fun _ => True) (.slice Ao23 x9_1.length co23) x9_1) ∧ Aside0 (Kd.R (Kd.int .i64) 3 wc w.heap.size (fun _ => True) u10 x10_1) ∧ Aside0 (Below w.heap.size w wc))
     case first =>
      have H := HC22.out
      clear HC22
      replace H := Option.bind_eq_some_iff.mp H
      obtain ⟨t391, A250, H⟩ := H
      replace H : (if t391 = true then (dancestudiolaw08_CrcFrames.j1 k1 l0 a1 a2 a3 x9_1 x10_1 (t388 != (x9_1.length : Int))) else (dancestudiolaw08_CrcFrames.j1 k1 l0 a1 a2 a3 x9_1 x10_1 true)) = some r := H
      have A25 := Aside0.mk A250
      clear A250
      by_cases c26 : t391 = true
      ·
       subst c26
       have H1 : (dancestudiolaw08_CrcFrames.j1 k1 l0 a1 a2 a3 x9_1 x10_1 (t388 != (x9_1.length : Int))) = some r := by rw [if_pos rfl] at H; exact H
       clear H
       have H := H1
       clear H1
       have H' := Aside0.mk H
       clear H
       obtain ⟨Ao27, co27, eo27⟩ := Kd.S_slice HO390.out
       subst eo27
       go_wp2_with (first | ((with_reducible refine gate_callee (f := 23) rfl ?_); refine goesL_ (some 55) rfl rfl Try.func23 (by kernel_rfl) rfl #[.slice Ao27 t387.length co27, .slice A0 l0.length c0] rfl (by (try simp only [List.map_toArray, List.map_cons, List.map_nil]); first | done | rfl | (simp only [List.length_drop, List.length_take]; rfl)) ?_; (with_reducible refine (dancestudiolaw08_lists.calls k1 _ _ t387 _ _ l0 true _ ?side1 ?side2 ?side3 ?side4 A25.out).mono ?_); (case side1 => repeat (first | exact (Kd.S_reads' HO390.out).2.2 | (with_reducible refine Kd.C_alloc ?_ _) | (with_reducible refine Kd.C_drewN ?_ _) | (with_reducible refine Kd.C_drew ?_))); (case side2 => exact (Kd.S_reads' HO390.out).2.1); (case side3 => repeat (first | exact (Kd.C_below HR0.out HB.out) | (with_reducible refine Kd.C_alloc ?_ _) | (with_reducible refine Kd.C_drewN ?_ _) | (with_reducible refine Kd.C_drew ?_))); (case side4 => exact HC0.out); rintro e w' ⟨rfl, ⟨nd, rfl⟩⟩; refine ⟨_, rfl, ?_⟩))
       go_meet
       case rel => exact ⟨_, ((t388 != (x9_1.length : Int))), (by first | rfl | (simp; done) | (simp [*]; done)), H', ⟨by have := HK1.out; first | omega | exact Nat.le_refl _⟩, ⟨by (with_reducible repeat (first | apply Kd.R_alloc | apply Kd.R_drewN | apply Kd.R_drew)); exact HO_9.out⟩, ⟨by (with_reducible repeat (first | apply Kd.R_alloc | apply Kd.R_drewN | apply Kd.R_drew)); exact HO_10.out⟩, ⟨by repeat (first | (with_reducible first | exact HB.out | apply below_alloc | apply pw_below_drewN | apply below_drew1) | exact HB.out)⟩⟩
      ·
       replace c26 := Bool.eq_false_iff.mpr c26
       subst c26
       have H1 : (dancestudiolaw08_CrcFrames.j1 k1 l0 a1 a2 a3 x9_1 x10_1 true) = some r := by rw [if_neg (show ¬ (false = true) by decide)] at H; exact H
       clear H
       have H := H1
       clear H1
       have H' := Aside0.mk H
       clear H
       obtain ⟨Ao28, co28, eo28⟩ := Kd.S_slice HO390.out
       subst eo28
       go_wp2_with (first | ((with_reducible refine gate_callee (f := 23) rfl ?_); refine goesL_ (some 55) rfl rfl Try.func23 (by kernel_rfl) rfl #[.slice Ao28 t387.length co28, .slice A0 l0.length c0] rfl (by (try simp only [List.map_toArray, List.map_cons, List.map_nil]); first | done | rfl | (simp only [List.length_drop, List.length_take]; rfl)) ?_; (with_reducible refine (dancestudiolaw08_lists.calls k1 _ _ t387 _ _ l0 false _ ?side1 ?side2 ?side3 ?side4 A25.out).mono ?_); (case side1 => repeat (first | exact (Kd.S_reads' HO390.out).2.2 | (with_reducible refine Kd.C_alloc ?_ _) | (with_reducible refine Kd.C_drewN ?_ _) | (with_reducible refine Kd.C_drew ?_))); (case side2 => exact (Kd.S_reads' HO390.out).2.1); (case side3 => repeat (first | exact (Kd.C_below HR0.out HB.out) | (with_reducible refine Kd.C_alloc ?_ _) | (with_reducible refine Kd.C_drewN ?_ _) | (with_reducible refine Kd.C_drew ?_))); (case side4 => exact HC0.out); rintro e w' ⟨rfl, ⟨nd, rfl⟩⟩; refine ⟨_, rfl, ?_⟩))
       go_meet
       case rel => exact ⟨_, (true), (by first | rfl | (simp; done) | (simp [*]; done)), H', ⟨by have := HK1.out; first | omega | exact Nat.le_refl _⟩, ⟨by (with_reducible repeat (first | apply Kd.R_alloc | apply Kd.R_drewN | apply Kd.R_drew)); exact HO_9.out⟩, ⟨by (with_reducible repeat (first | apply Kd.R_alloc | apply Kd.R_drewN | apply Kd.R_drew)); exact HO_10.out⟩, ⟨by repeat (first | (with_reducible first | exact HB.out | apply below_alloc | apply pw_below_drewN | apply below_drew1) | exact HB.out)⟩⟩
     case rest =>
      clear HC22
      try clear c1
      try clear c2
      try clear p2
      try clear c3
      try clear p3
      try clear q3
      try clear hx3
      try clear c6
      try clear p6
      try clear c9
      try clear c9b0
      try clear c10
      try clear c10b0
      try clear c11
      try clear c12
      try clear c12b0
      try clear c12b1
      try clear c13
      try clear c14
      try clear c16
      try clear c21
      try clear c23
      try clear c24
      try clear c26
      try clear hx376_0
      try clear p2
      try clear p376
      try clear q376
      obtain ⟨kq, x62_21, rfl, HA, HJ21, HO_9, HO_10, HB⟩ := hcut
      cases kq with
      | zero => exact absurd HA.out (by simp [dancestudiolaw08_CrcFrames.j1])
      | succ kj21 =>
       have H := HA.out
       clear HA
       simp only [dancestudiolaw08_CrcFrames.j1] at H
       by_cases c29 : x62_21 = true
       ·
        subst c29
        have H1 : (some false) = some r := by rw [if_pos rfl] at H; exact H
        clear H
        have H := H1
        clear H1
        obtain rfl := Option.some.inj H
        go_wp2
        go_ret
        exact ⟨by first | rfl | (simp [errW_none, errW_some] <;> rfl) | (simp [*, errW_none, errW_some] <;> rfl), by repeat (first | (with_reducible first | exact HB.out | apply below_alloc | apply pw_below_drewN | apply below_drew1) | exact HB.out)⟩
       ·
        replace c29 := Bool.eq_false_iff.mpr c29
        subst c29
        have H1 : (if (l0.length : Int) = 0 then (dancestudiolaw08_CrcFrames.j2 kj21 l0 a1 a2 a3 x9_1 x10_1 true) else (if a1 < 0 then (dancestudiolaw08_CrcFrames.j2 kj21 l0 a1 a2 a3 x9_1 x10_1 true) else (if a1 ≥ (l0.length : Int) then (dancestudiolaw08_CrcFrames.j2 kj21 l0 a1 a2 a3 x9_1 x10_1 true) else (dancestudiolaw08_CrcFrames.j2 kj21 l0 a1 a2 a3 x9_1 x10_1 (a3 == 0))))) = some r := by rw [if_neg (show ¬ (false = true) by decide)] at H; exact H
        clear H
        have H := H1
        clear H1
        have HC30 := Aside0.mk H
        clear H
        go_upto_region 16 with (fail)
        go_cut [79] (fun v79 wc => ∃ (kq : Nat) (x79_29 : Bool), v79 = .bool x79_29 ∧ Aside0 (dancestudiolaw08_CrcFrames.j2 kq l0 a1 a2 a3 x9_1 x10_1 x79_29 = some r) ∧ Aside0 (kq ≤ kj21) ∧ Aside0 (Kd.R (Kd.int .u8) 5 wc w.heap.size (fun _ => True) (.slice Ao23 x9_1.length co23) x9_1) ∧ Aside0 (Kd.R (Kd.int .i64) 3 wc w.heap.size (fun _ => True) u10 x10_1) ∧ Aside0 (Below w.heap.size w wc))
        case first =>
         have H := HC30.out
         clear HC30
         by_cases c31 : (l0.length : Int) = 0
         ·
          rw [if_pos c31] at H
          have c31b0 : ((l0.length : Int) == 0) = true := beq_iff_eq.mpr c31
          have c31b1 : ((l0.length : Int) != 0) = false := bne_eq_false_iff_eq.mpr c31
          clear c31
          (first | rw [c31b0] | (simp only [i64_w, i32_w]; rw [c31b0]) | skip)
          have H' := Aside0.mk H
          clear H
          go_wp2
          go_meet
          case rel => exact ⟨_, (true), (by first | rfl | (simp; done) | (simp [*]; done)), H', ⟨by have := HK1.out; have := HJ21.out; first | omega | exact Nat.le_refl _⟩, ⟨by (with_reducible repeat (first | apply Kd.R_alloc | apply Kd.R_drewN | apply Kd.R_drew)); exact HO_9.out⟩, ⟨by (with_reducible repeat (first | apply Kd.R_alloc | apply Kd.R_drewN | apply Kd.R_drew)); exact HO_10.out⟩, ⟨by repeat (first | (with_reducible first | exact HB.out | apply below_alloc | apply pw_below_drewN | apply below_drew1) | exact HB.out)⟩⟩
         ·
          rw [if_neg c31] at H
          have c31b0 : ((l0.length : Int) == 0) = false := beq_eq_false_iff_ne.mpr c31
          have c31b1 : ((l0.length : Int) != 0) = true := bne_iff_ne.mpr c31
          have c31b2 : ¬ (l0 = []) := fun h_ => c31 (by rw [h_]; rfl)
          (first | rw [c31b0] | (simp only [i64_w, i32_w]; rw [c31b0]) | skip)
          by_cases c32 : a1 < 0
          ·
           rw [if_pos c32] at H
           have c32b0 : decide (a1 < 0) = true := decide_eq_true c32
           clear c32
           have H' := Aside0.mk H
           clear H
           go_wp2
           go_meet
           case rel => exact ⟨_, (true), (by first | rfl | (simp; done) | (simp [*]; done)), H', ⟨by have := HK1.out; have := HJ21.out; first | omega | exact Nat.le_refl _⟩, ⟨by (with_reducible repeat (first | apply Kd.R_alloc | apply Kd.R_drewN | apply Kd.R_drew)); exact HO_9.out⟩, ⟨by (with_reducible repeat (first | apply Kd.R_alloc | apply Kd.R_drewN | apply Kd.R_drew)); exact HO_10.out⟩, ⟨by repeat (first | (with_reducible first | exact HB.out | apply below_alloc | apply pw_below_drewN | apply below_drew1) | exact HB.out)⟩⟩
          ·
           rw [if_neg c32] at H
           have c32b0 : decide (a1 < 0) = false := decide_eq_false c32
           clear c32
           by_cases c33 : a1 ≥ (l0.length : Int)
           ·
            rw [if_pos c33] at H
            have c33b0 : decide ((l0.length : Int) ≤ a1) = true := decide_eq_true c33
            clear c33
            have H' := Aside0.mk H
            clear H
            go_wp2
            go_meet
            case rel => exact ⟨_, (true), (by first | rfl | (simp; done) | (simp [*]; done)), H', ⟨by have := HK1.out; have := HJ21.out; first | omega | exact Nat.le_refl _⟩, ⟨by (with_reducible repeat (first | apply Kd.R_alloc | apply Kd.R_drewN | apply Kd.R_drew)); exact HO_9.out⟩, ⟨by (with_reducible repeat (first | apply Kd.R_alloc | apply Kd.R_drewN | apply Kd.R_drew)); exact HO_10.out⟩, ⟨by repeat (first | (with_reducible first | exact HB.out | apply below_alloc | apply pw_below_drewN | apply below_drew1) | exact HB.out)⟩⟩
           ·
            rw [if_neg c33] at H
            have c33b0 : decide ((l0.length : Int) ≤ a1) = false := decide_eq_false c33
            clear c33
            have H' := Aside0.mk H
            clear H
            go_wp2
            go_meet
            case rel => exact ⟨_, ((a3 == 0)), (by first | rfl | (simp; done) | (simp [*]; done)), H', ⟨by have := HK1.out; have := HJ21.out; first | omega | exact Nat.le_refl _⟩, ⟨by (with_reducible repeat (first | apply Kd.R_alloc | apply Kd.R_drewN | apply Kd.R_drew)); exact HO_9.out⟩, ⟨by (with_reducible repeat (first | apply Kd.R_alloc | apply Kd.R_drewN | apply Kd.R_drew)); exact HO_10.out⟩, ⟨by repeat (first | (with_reducible first | exact HB.out | apply below_alloc | apply pw_below_drewN | apply below_drew1) | exact HB.out)⟩⟩
        case rest =>
         clear HC30
         try clear c1
         try clear c2
         try clear p2
         try clear c3
         try clear p3
         try clear q3
         try clear hx3
         try clear c6
         try clear p6
         try clear c9
         try clear c9b0
         try clear c10
         try clear c10b0
         try clear c11
         try clear c12
         try clear c12b0
         try clear c12b1
         try clear c13
         try clear c14
         try clear c16
         try clear c21
         try clear c23
         try clear c24
         try clear c26
         try clear c29
         try clear c31
         try clear c31b0
         try clear c31b1
         try clear c31b2
         try clear c32
         try clear c32b0
         try clear c33
         try clear c33b0
         try clear hx376_0
         try clear p2
         try clear p3
         try clear p376
         try clear p6
         try clear q3
         try clear q376
         obtain ⟨kq, x79_29, rfl, HA, HJ29, HO_9, HO_10, HB⟩ := hcut
         cases kq with
         | zero => exact absurd HA.out (by simp [dancestudiolaw08_CrcFrames.j2])
         | succ kj29 =>
          have H := HA.out
          clear HA
          simp only [dancestudiolaw08_CrcFrames.j2] at H
          by_cases c34 : x79_29 = true
          ·
           subst c34
           have H1 : ((dancestudiolaw08_awake.f kj29).bind fun t392 => (some t392)) = some r := by rw [if_pos rfl] at H; exact H
           clear H
           have H := H1
           clear H1
           replace H := Option.bind_eq_some_iff.mp H
           obtain ⟨t392, A350, H⟩ := H
           replace H : (some t392) = some r := H
           have A35 := Aside0.mk A350
           clear A350
           obtain rfl := Option.some.inj H
           go_wp2_with (first | ((with_reducible refine gate_callee (f := 11) rfl ?_); refine goesL_ (some 80) rfl rfl Try.func11 (by kernel_rfl) rfl #[] rfl (by (try simp only [List.map_toArray, List.map_cons, List.map_nil]); first | done | rfl | (simp only [List.length_drop, List.length_take]; rfl)) ?_; (with_reducible refine (dancestudiolaw08_awake.calls kj29  t392 _ A35.out).mono ?_); rintro e w36 ⟨rfl, hb⟩; refine ⟨_, rfl, ?_⟩; have n0_ := Aside0.mk (Kd.R_below (by (with_reducible repeat (first | apply Kd.R_alloc | apply Kd.R_drewN | apply Kd.R_drew)); exact HO_9.out) hb); have n1_ := Aside0.mk (Kd.R_below (by (with_reducible repeat (first | apply Kd.R_alloc | apply Kd.R_drewN | apply Kd.R_drew)); exact HO_10.out) hb); have n2_ := Aside0.mk (below_step (by repeat (first | (with_reducible first | exact HB.out | apply below_alloc | apply pw_below_drewN | apply below_drew1) | exact HB.out)) hb); clear HO_9; clear HO_10; clear HB; have HO_9 := n0_; have HO_10 := n1_; have HB := n2_; clear n0_ n1_ n2_; (try clear hb); (try clear hb2); (try clear hk); (try clear hi)))
           go_ret
           exact ⟨by first | rfl | (simp [errW_none, errW_some] <;> rfl) | (simp [*, errW_none, errW_some] <;> rfl), by repeat (first | (with_reducible first | exact HB.out | apply below_alloc | apply pw_below_drewN | apply below_drew1) | exact HB.out)⟩
          ·
           replace c34 := Bool.eq_false_iff.mpr c34
           subst c34
           have H1 : (if 0 ≤ a1 then (if a1 < (l0.length : Int) then (if ((rd_L1 l0 a1).length : Int) ≥ 64 then (dancestudiolaw08_CrcFrames.j3 kj29 l0 a1 a2 a3 x9_1 x10_1 2) else (dancestudiolaw08_CrcFrames.j3 kj29 l0 a1 a2 a3 x9_1 x10_1 1)) else (none)) else (none)) = some r := by rw [if_neg (show ¬ (false = true) by decide)] at H; exact H
           clear H
           have H := H1
           clear H1
           by_cases c37 : 0 ≤ a1
           ·
            rw [if_pos c37] at H
            have c37b0 : decide (0 ≤ a1) = true := decide_eq_true c37
            clear c37
            by_cases c38 : a1 < (l0.length : Int)
            ·
             rw [if_pos c38] at H
             have c38b0 : decide (a1 < (l0.length : Int)) = true := decide_eq_true c38
             clear c38
             have HC39 := Aside0.mk H
             clear H
             have p393 : 0 ≤ (a1 : Int) := of_decide_eq_true (by first | (with_reducible assumption) | assumption)
             have q393 : a1 < (l0.length : Int) := of_decide_eq_true (by first | (with_reducible assumption) | assumption)
             obtain ⟨ad393, A393_0, c393_0, e393, hx393_0, hl393_0, hi393_0⟩ := at_L1 HR0.out a1 p393 q393
             cases e393
             replace hx393_0 := (HB.out.cell (World.block_lt_of_cell? w _ hx393_0)).trans hx393_0
             have HR393_0 := Aside0.mk hi393_0
             have HC393_0 := Aside0.mk hl393_0
             clear hi393_0 hl393_0
             replace p393 := eq_true p393
             replace q393 := eq_true q393
             go_upto_if 86 with (fail)
             go_cut [16] (fun v16 wc => ∃ (kq : Nat) (x16_38 : Int), v16 = .int .i64 x16_38 ∧ Aside0 (dancestudiolaw08_CrcFrames.j3 kq l0 a1 a2 a3 x9_1 x10_1 x16_38 = some r) ∧ Aside0 (kq ≤ kj29) ∧ Aside0 (Kd.R (Kd.int .u8) 5 wc w.heap.size (fun _ => True) (.slice Ao23 x9_1.length co23) x9_1) ∧ Aside0 (Kd.R (Kd.int .i64) 3 wc w.heap.size (fun _ => True) u10 x10_1) ∧ Aside0 (Below w.heap.size w wc))
             case first =>
              have H := HC39.out
              clear HC39
              by_cases c40 : ((rd_L1 l0 a1).length : Int) ≥ 64
              ·
               rw [if_pos c40] at H
               have c40b0 : decide (64 ≤ ((rd_L1 l0 a1).length : Int)) = true := decide_eq_true c40
               have c40b1 : decide (64 ≤ (rd_L1 l0 a1).length) = true := decide_eq_true (by omega)
               clear c40
               (first | rw [c40b0] | (simp only [i64_w, i32_w]; rw [c40b0]) | skip)
               have H' := Aside0.mk H
               clear H
               go_wp2
               go_meet
               case rel => exact ⟨_, (2), (by first | rfl | (simp; done) | (simp [*]; done)), H', ⟨by have := HK1.out; have := HJ21.out; have := HJ29.out; first | omega | exact Nat.le_refl _⟩, ⟨by (with_reducible repeat (first | apply Kd.R_alloc | apply Kd.R_drewN | apply Kd.R_drew)); exact HO_9.out⟩, ⟨by (with_reducible repeat (first | apply Kd.R_alloc | apply Kd.R_drewN | apply Kd.R_drew)); exact HO_10.out⟩, ⟨by repeat (first | (with_reducible first | exact HB.out | apply below_alloc | apply pw_below_drewN | apply below_drew1) | exact HB.out)⟩⟩
              ·
               rw [if_neg c40] at H
               have c40b0 : decide (64 ≤ ((rd_L1 l0 a1).length : Int)) = false := decide_eq_false c40
               have c40b1 : decide (64 ≤ (rd_L1 l0 a1).length) = false := decide_eq_false (by omega)
               clear c40
               (first | rw [c40b0] | (simp only [i64_w, i32_w]; rw [c40b0]) | skip)
               have H' := Aside0.mk H
               clear H
               go_wp2
               go_meet
               case rel => exact ⟨_, (1), (by first | rfl | (simp; done) | (simp [*]; done)), H', ⟨by have := HK1.out; have := HJ21.out; have := HJ29.out; first | omega | exact Nat.le_refl _⟩, ⟨by (with_reducible repeat (first | apply Kd.R_alloc | apply Kd.R_drewN | apply Kd.R_drew)); exact HO_9.out⟩, ⟨by (with_reducible repeat (first | apply Kd.R_alloc | apply Kd.R_drewN | apply Kd.R_drew)); exact HO_10.out⟩, ⟨by repeat (first | (with_reducible first | exact HB.out | apply below_alloc | apply pw_below_drewN | apply below_drew1) | exact HB.out)⟩⟩
             case rest =>
              clear HC39
              try clear c1
              try clear c2
              try clear p2
              try clear c3
              try clear p3
              try clear q3
              try clear hx3
              try clear c4
              try clear c6
              try clear p6
              try clear c9
              try clear c9b0
              try clear c10
              try clear c10b0
              try clear c11
              try clear c12
              try clear c12b0
              try clear c12b1
              try clear c13
              try clear c14
              try clear c16
              try clear c21
              try clear c23
              try clear c24
              try clear c26
              try clear c29
              try clear c31
              try clear c31b0
              try clear c31b1
              try clear c31b2
              try clear c32
              try clear c32b0
              try clear c33
              try clear c33b0
              try clear c34
              try clear c37
              try clear c37b0
              try clear p37
              try clear q37
              try clear hx37
              try clear c38
              try clear c38b0
              try clear c39
              try clear p39
              try clear q39
              try clear hx39
              try clear c40
              try clear c40b0
              try clear c40b1
              try clear hx376_0
              try clear hx393_0
              try clear p2
              try clear p3
              try clear p376
              try clear p393
              try clear p6
              try clear q3
              try clear q376
              try clear q393
              obtain ⟨kq, x16_38, rfl, HA, HJ38, HO_9, HO_10, HB⟩ := hcut
              cases kq with
              | zero => exact absurd HA.out (by simp [dancestudiolaw08_CrcFrames.j3])
              | succ kj38 =>
               have H := HA.out
               clear HA
               simp only [dancestudiolaw08_CrcFrames.j3] at H
               have HC41 := Aside0.mk H
               clear H
               go_upto_region 21 with (fail)
               go_cut [98] (fun v98 wc => ∃ (kq : Nat) (x98_40 : Bool), v98 = .bool x98_40 ∧ Aside0 (dancestudiolaw08_CrcFrames.j4 kq l0 a1 a2 a3 x9_1 x10_1 x16_38 x98_40 = some r) ∧ Aside0 (kq ≤ kj38) ∧ Aside0 (Kd.R (Kd.int .u8) 5 wc w.heap.size (fun _ => True) (.slice Ao23 x9_1.length co23) x9_1) ∧ Aside0 (Kd.R (Kd.int .i64) 3 wc w.heap.size (fun _ => True) u10 x10_1) ∧ Aside0 (Below w.heap.size w wc))
               case first =>
                have H := HC41.out
                clear HC41
                by_cases c42 : a2 < 0
                ·
                 rw [if_pos c42] at H
                 have c42b0 : decide (a2 < 0) = true := decide_eq_true c42
                 clear c42
                 (first | rw [c42b0] | (simp only [i64_w, i32_w]; rw [c42b0]) | skip)
                 have H' := Aside0.mk H
                 clear H
                 go_wp2
                 go_meet
                 case rel => exact ⟨_, (true), (by first | rfl | (simp; done) | (simp [*]; done)), H', ⟨by have := HK1.out; have := HJ21.out; have := HJ29.out; have := HJ38.out; first | omega | exact Nat.le_refl _⟩, ⟨by (with_reducible repeat (first | apply Kd.R_alloc | apply Kd.R_drewN | apply Kd.R_drew)); exact HO_9.out⟩, ⟨by (with_reducible repeat (first | apply Kd.R_alloc | apply Kd.R_drewN | apply Kd.R_drew)); exact HO_10.out⟩, ⟨by repeat (first | (with_reducible first | exact HB.out | apply below_alloc | apply pw_below_drewN | apply below_drew1) | exact HB.out)⟩⟩
                ·
                 rw [if_neg c42] at H
                 have c42b0 : decide (a2 < 0) = false := decide_eq_false c42
                 clear c42
                 (first | rw [c42b0] | (simp only [i64_w, i32_w]; rw [c42b0]) | skip)
                 by_cases c43 : 0 ≤ a1
                 ·
                  rw [if_pos c43] at H
                  have c43b0 : decide (0 ≤ a1) = true := decide_eq_true c43
                  clear c43
                  by_cases c44 : a1 < (l0.length : Int)
                  ·
                   rw [if_pos c44] at H
                   have c44b0 : decide (a1 < (l0.length : Int)) = true := decide_eq_true c44
                   clear c44
                   have H' := Aside0.mk H
                   clear H
                   have p394 : 0 ≤ (a1 : Int) := of_decide_eq_true (by first | (with_reducible assumption) | assumption)
                   have q394 : a1 < (l0.length : Int) := of_decide_eq_true (by first | (with_reducible assumption) | assumption)
                   obtain ⟨ad394, A394_0, c394_0, e394, hx394_0, hl394_0, hi394_0⟩ := at_L1 HR0.out a1 p394 q394
                   obtain rfl : ad393 = ad394 := (by injection e394)
                   replace hx394_0 := (HB.out.cell (World.block_lt_of_cell? w _ hx394_0)).trans hx394_0
                   have HR394_0 := Aside0.mk hi394_0
                   have HC394_0 := Aside0.mk hl394_0
                   clear hi394_0 hl394_0
                   replace p394 := eq_true p394
                   replace q394 := eq_true q394
                   go_wp2
                   go_meet
                   case rel => exact ⟨_, (decide (a2 ≥ (wrap64 (4 + ((rd_L1 l0 a1).length : Int))))), (by first | rfl | (simp; done) | (simp [*]; done)), H', ⟨by have := HK1.out; have := HJ21.out; have := HJ29.out; have := HJ38.out; first | omega | exact Nat.le_refl _⟩, ⟨by (with_reducible repeat (first | apply Kd.R_alloc | apply Kd.R_drewN | apply Kd.R_drew)); exact HO_9.out⟩, ⟨by (with_reducible repeat (first | apply Kd.R_alloc | apply Kd.R_drewN | apply Kd.R_drew)); exact HO_10.out⟩, ⟨by repeat (first | (with_reducible first | exact HB.out | apply below_alloc | apply pw_below_drewN | apply below_drew1) | exact HB.out)⟩⟩
                  ·
                   rw [if_neg c44] at H
                   exact absurd H (by simp)
                 ·
                  rw [if_neg c43] at H
                  exact absurd H (by simp)
               case rest =>
                clear HC41
                try clear c1
                try clear c2
                try clear p2
                try clear c3
                try clear p3
                try clear q3
                try clear hx3
                try clear c4
                try clear c6
                try clear p6
                try clear c9
                try clear c9b0
                try clear c10
                try clear c10b0
                try clear c11
                try clear c12
                try clear c12b0
                try clear c12b1
                try clear c13
                try clear c14
                try clear c16
                try clear c21
                try clear c23
                try clear c24
                try clear c26
                try clear c29
                try clear c31
                try clear c31b0
                try clear c31b1
                try clear c31b2
                try clear c32
                try clear c32b0
                try clear c33
                try clear c33b0
                try clear c34
                try clear c37
                try clear c37b0
                try clear p37
                try clear q37
                try clear hx37
                try clear c38
                try clear c38b0
                try clear c39
                try clear p39
                try clear q39
                try clear hx39
                try clear c40
                try clear c40b0
                try clear c40b1
                try clear c42
                try clear c42b0
                try clear c43
                try clear c43b0
                try clear c44
                try clear c44b0
                try clear hx376_0
                try clear hx393_0
                try clear hx394_0
                try clear p2
                try clear p3
                try clear p37
                try clear p376
                try clear p39
                try clear p393
                try clear p394
                try clear p6
                try clear q3
                try clear q37
                try clear q376
                try clear q39
                try clear q393
                try clear q394
                obtain ⟨kq, x98_40, rfl, HA, HJ40, HO_9, HO_10, HB⟩ := hcut
                cases kq with
                | zero => exact absurd HA.out (by simp [dancestudiolaw08_CrcFrames.j4])
                | succ kj40 =>
                 have H := HA.out
                 clear HA
                 simp only [dancestudiolaw08_CrcFrames.j4] at H
                 by_cases c45 : x98_40 = true
                 ·
                  subst c45
                  have H1 : ((dancestudiolaw08_awake.f kj40).bind fun t395 => (some t395)) = some r := by rw [if_pos rfl] at H; exact H
                  clear H
                  have H := H1
                  clear H1
                  replace H := Option.bind_eq_some_iff.mp H
                  obtain ⟨t395, A460, H⟩ := H
                  replace H : (some t395) = some r := H
                  have A46 := Aside0.mk A460
                  clear A460
                  obtain rfl := Option.some.inj H
                  go_wp2_with (first | ((with_reducible refine gate_callee (f := 11) rfl ?_); refine goesL_ (some 99) rfl rfl Try.func11 (by kernel_rfl) rfl #[] rfl (by (try simp only [List.map_toArray, List.map_cons, List.map_nil]); first | done | rfl | (simp only [List.length_drop, List.length_take]; rfl)) ?_; (with_reducible refine (dancestudiolaw08_awake.calls kj40  t395 _ A46.out).mono ?_); rintro e w47 ⟨rfl, hb⟩; refine ⟨_, rfl, ?_⟩; have n0_ := Aside0.mk (Kd.R_below (by (with_reducible repeat (first | apply Kd.R_alloc | apply Kd.R_drewN | apply Kd.R_drew)); exact HO_9.out) hb); have n1_ := Aside0.mk (Kd.R_below (by (with_reducible repeat (first | apply Kd.R_alloc | apply Kd.R_drewN | apply Kd.R_drew)); exact HO_10.out) hb); have n2_ := Aside0.mk (below_step (by repeat (first | (with_reducible first | exact HB.out | apply below_alloc | apply pw_below_drewN | apply below_drew1) | exact HB.out)) hb); clear HO_9; clear HO_10; clear HB; have HO_9 := n0_; have HO_10 := n1_; have HB := n2_; clear n0_ n1_ n2_; (try clear hb); (try clear hb2); (try clear hk); (try clear hi)))
                  go_ret
                  exact ⟨by first | rfl | (simp [errW_none, errW_some] <;> rfl) | (simp [*, errW_none, errW_some] <;> rfl), by repeat (first | (with_reducible first | exact HB.out | apply below_alloc | apply pw_below_drewN | apply below_drew1) | exact HB.out)⟩
                 ·
                  replace c45 := Bool.eq_false_iff.mpr c45
                  subst c45
                  have H1 : (if 0 ≤ a1 then (if a1 < (x10_1.length : Int) then (if (wrap64 ((wrap64 ((rd x10_1 a1) + x16_38)) + a2)) ≥ (x9_1.length : Int) then (some false) else (if 0 ≤ (wrap64 ((wrap64 ((rd x10_1 a1) + x16_38)) + a2)) then (if (wrap64 ((wrap64 ((rd x10_1 a1) + x16_38)) + a2)) < (x9_1.length : Int) then ((some (x9_1.set ((wrap64 ((wrap64 ((rd x10_1 a1) + x16_38)) + a2)) : Int).toNat (Go.bits .xor .u8 (rd x9_1 (wrap64 ((wrap64 ((rd x10_1 a1) + x16_38)) + a2))) a3) : List Int)).bind fun y398 => (if 0 ≤ (rd x10_1 a1) then (if (rd x10_1 a1) ≤ (x9_1.length : Int) then ((crc_Open.f kj40 (y398.drop ((rd x10_1 a1) : Int).toNat)).bind fun bt404 => ((crc_All.f kj40 y398).bind fun bt409 => (if bt404.2.2 = 14 then (if a1 ≤ (l0.length : Int) then ((dancestudiolaw08_lists.f kj40 bt409.1 (l0.take (a1 : Int).toNat)).bind fun t417 => (if t417 = true then (if bt409.2 = (rd x10_1 a1) then ((dancestudiolaw08_awake.f kj40).bind fun t419 => (some t419)) else (some false)) else (some false))) else (none)) else (some false)))) else (none)) else (none))) else (none)) else (none))) else (none)) else (none)) = some r := by rw [if_neg (show ¬ (false = true) by decide)] at H; exact H
                  clear H
                  have H := H1
                  clear H1
                  by_cases c48 : 0 ≤ a1
                  ·
                   rw [if_pos c48] at H
                   have c48b0 : decide (0 ≤ a1) = true := decide_eq_true c48
                   clear c48
                   by_cases c49 : a1 < (x10_1.length : Int)
                   ·
                    rw [if_pos c49] at H
                    have c49b0 : decide (a1 < (x10_1.length : Int)) = true := decide_eq_true c49
                    clear c49
                    by_cases c50 : (wrap64 ((wrap64 ((rd x10_1 a1) + x16_38)) + a2)) ≥ (x9_1.length : Int)
                    ·
                     rw [if_pos c50] at H
                     have c50b0 : decide ((x9_1.length : Int) ≤ (wrap64 ((wrap64 ((rd x10_1 a1) + x16_38)) + a2))) = true := decide_eq_true c50
                     clear c50
                     obtain rfl := Option.some.inj H
                     obtain ⟨Ao51, co51, eo51⟩ := Kd.R_slice HO_10.out
                     subst eo51
                     have p396 : 0 ≤ (a1 : Int) := of_decide_eq_true (by first | (with_reducible assumption) | assumption)
                     have q396 : a1 < (x10_1.length : Int) := of_decide_eq_true (by first | (with_reducible assumption) | assumption)
                     obtain ⟨ad396, e396, hx396_0⟩ := Kd.at_int (Kd.R_reads' HO_10.out).2.2 a1 p396 q396
                     cases e396
                     replace p396 := eq_true p396
                     replace q396 := eq_true q396
                     go_wp2
                     go_ret
                     exact ⟨by first | rfl | (simp [errW_none, errW_some] <;> rfl) | (simp [*, errW_none, errW_some] <;> rfl), by repeat (first | (with_reducible first | exact HB.out | apply below_alloc | apply pw_below_drewN | apply below_drew1) | exact HB.out)⟩
                    ·
                     rw [if_neg c50] at H
                     have c50b0 : decide ((x9_1.length : Int) ≤ (wrap64 ((wrap64 ((rd x10_1 a1) + x16_38)) + a2))) = false := decide_eq_false c50
                     clear c50
                     obtain ⟨ji52, hji52⟩ : ∃ j_ : Int, (wrap64 ((wrap64 ((rd x10_1 a1) + x16_38)) + a2)) = j_ := ⟨_, rfl⟩
                     replace H : (if 0 ≤ (ji52) then (if (ji52) < (x9_1.length : Int) then ((some (x9_1.set ((ji52) : Int).toNat (Go.bits .xor .u8 (rd x9_1 (ji52)) a3) : List Int)).bind fun y398 => (if 0 ≤ (rd x10_1 a1) then (if (rd x10_1 a1) ≤ (x9_1.length : Int) then ((crc_Open.f kj40 (y398.drop ((rd x10_1 a1) : Int).toNat)).bind fun bt404 => ((crc_All.f kj40 y398).bind fun bt409 => (if bt404.2.2 = 14 then (if a1 ≤ (l0.length : Int) then ((dancestudiolaw08_lists.f kj40 bt409.1 (l0.take (a1 : Int).toNat)).bind fun t417 => (if t417 = true then (if bt409.2 = (rd x10_1 a1) then ((dancestudiolaw08_awake.f kj40).bind fun t419 => (some t419)) else (some false)) else (some false))) else (none)) else (some false)))) else (none)) else (none))) else (none)) else (none)) = some r := by first | (rw [hji52] at H; exact H) | (simp only [hji52] at H ⊢; exact H)
                     (try rw [hji52] at c50b0)
                     have hji52w : (IntKind.i64.wrap ((wrap64 ((rd x10_1 a1) + x16_38)) + a2)) = ji52 := (i64_w _).trans hji52
                     by_cases c53 : 0 ≤ (ji52)
                     ·
                      rw [if_pos c53] at H
                      have c53b0 : decide (0 ≤ (ji52)) = true := decide_eq_true c53
                      clear c53
                      by_cases c54 : (ji52) < (x9_1.length : Int)
                      ·
                       rw [if_pos c54] at H
                       have c54b0 : decide ((ji52) < (x9_1.length : Int)) = true := decide_eq_true c54
                       clear c54
                       obtain ⟨y398, hy398⟩ : ∃ y_ : List Int, y_ = (x9_1.set ((ji52) : Int).toNat (Go.bits .xor .u8 (rd x9_1 (ji52)) a3)) := ⟨_, rfl⟩
                       replace H : (if 0 ≤ (rd x10_1 a1) then (if (rd x10_1 a1) ≤ (x9_1.length : Int) then ((crc_Open.f kj40 (y398.drop ((rd x10_1 a1) : Int).toNat)).bind fun bt404 => ((crc_All.f kj40 y398).bind fun bt409 => (if bt404.2.2 = 14 then (if a1 ≤ (l0.length : Int) then ((dancestudiolaw08_lists.f kj40 bt409.1 (l0.take (a1 : Int).toNat)).bind fun t417 => (if t417 = true then (if bt409.2 = (rd x10_1 a1) then ((dancestudiolaw08_awake.f kj40).bind fun t419 => (some t419)) else (some false)) else (some false))) else (none)) else (some false)))) else (none)) else (none)) = some r := by first | (rw [hy398]; with_reducible exact H) | (have H2_ := (Option.bind_some _ _).symm.trans H; rw [hy398]; with_reducible exact H2_) | (have H2_ := (Option.bind_some _ _).symm.trans H; with_reducible exact H2_) | with_reducible exact H | (rw [hy398]; exact H) | exact H
                       have Ny398 := Aside0.mk hy398
                       clear hy398
                       by_cases c56 : 0 ≤ (rd x10_1 a1)
                       ·
                        rw [if_pos c56] at H
                        have c56b0 := eq_true c56
                        have c56b1 : decide (0 ≤ (rd x10_1 a1)) = true := decide_eq_true c56
                        clear c56
                        by_cases c57 : (rd x10_1 a1) ≤ (x9_1.length : Int)
                        ·
                         rw [if_pos c57] at H
                         have c57b0 := eq_true c57
                         have c57b1 : decide ((rd x10_1 a1) ≤ (x9_1.length : Int)) = true := decide_eq_true c57
                         clear c57
                         obtain ⟨y400, hy400⟩ : ∃ y_ : List Int, y_ = (y398.drop ((rd x10_1 a1) : Int).toNat) := ⟨_, rfl⟩
                         replace H : ((crc_Open.f kj40 y400).bind fun bt404 => ((crc_All.f kj40 y398).bind fun bt409 => (if bt404.2.2 = 14 then (if a1 ≤ (l0.length : Int) then ((dancestudiolaw08_lists.f kj40 bt409.1 (l0.take (a1 : Int).toNat)).bind fun t417 => (if t417 = true then (if bt409.2 = (rd x10_1 a1) then ((dancestudiolaw08_awake.f kj40).bind fun t419 => (some t419)) else (some false)) else (some false))) else (none)) else (some false)))) = some r := by first | (rw [hy400]; with_reducible exact H) | (have H2_ := (Option.bind_some _ _).symm.trans H; rw [hy400]; with_reducible exact H2_) | (have H2_ := (Option.bind_some _ _).symm.trans H; with_reducible exact H2_) | with_reducible exact H | (rw [hy400]; exact H) | exact H
                         have Ny400 := Aside0.mk hy400
                         clear hy400
                         replace H := Option.bind_eq_some_iff.mp H
                         obtain ⟨⟨t404, t405, t406⟩, A580, H⟩ := H
                         replace H : ((crc_All.f kj40 y398).bind fun bt409 => (if t406 = 14 then (if a1 ≤ (l0.length : Int) then ((dancestudiolaw08_lists.f kj40 bt409.1 (l0.take (a1 : Int).toNat)).bind fun t417 => (if t417 = true then (if bt409.2 = (rd x10_1 a1) then ((dancestudiolaw08_awake.f kj40).bind fun t419 => (some t419)) else (some false)) else (some false))) else (none)) else (some false))) = some r := H
                         have A58 := Aside0.mk A580
                         clear A580
                         replace H := Option.bind_eq_some_iff.mp H
                         obtain ⟨⟨t409, t410⟩, A590, H⟩ := H
                         replace H : (if t406 = 14 then (if a1 ≤ (l0.length : Int) then ((dancestudiolaw08_lists.f kj40 t409 (l0.take (a1 : Int).toNat)).bind fun t417 => (if t417 = true then (if t410 = (rd x10_1 a1) then ((dancestudiolaw08_awake.f kj40).bind fun t419 => (some t419)) else (some false)) else (some false))) else (none)) else (some false)) = some r := H
                         have A59 := Aside0.mk A590
                         clear A590
                         by_cases c60 : t406 = 14
                         ·
                          rw [if_pos c60] at H
                          have c60b0 : (t406 == 14) = true := beq_iff_eq.mpr c60
                          have c60b1 : (t406 != 14) = false := bne_eq_false_iff_eq.mpr c60
                          clear c60
                          have c61b0 := eq_true (of_decide_eq_true (by first | (with_reducible assumption) | assumption) : 0 ≤ a1)
                          by_cases c62 : a1 ≤ (l0.length : Int)
                          ·
                           rw [if_pos c62] at H
                           have c62b0 := eq_true c62
                           have c62b1 : decide (a1 ≤ (l0.length : Int)) = true := decide_eq_true c62
                           clear c62
                           obtain ⟨y413, hy413⟩ : ∃ y_ : List (List Int), y_ = (l0.take (a1 : Int).toNat) := ⟨_, rfl⟩
                           replace H : ((dancestudiolaw08_lists.f kj40 t409 y413).bind fun t417 => (if t417 = true then (if t410 = (rd x10_1 a1) then ((dancestudiolaw08_awake.f kj40).bind fun t419 => (some t419)) else (some false)) else (some false))) = some r := by first | (rw [hy413]; with_reducible exact H) | (have H2_ := (Option.bind_some _ _).symm.trans H; rw [hy413]; with_reducible exact H2_) | (have H2_ := (Option.bind_some _ _).symm.trans H; with_reducible exact H2_) | with_reducible exact H | (rw [hy413]; exact H) | exact H
                           have Ny413 := Aside0.mk hy413
                           clear hy413
                           replace H := Option.bind_eq_some_iff.mp H
                           obtain ⟨t417, A630, H⟩ := H
                           replace H : (if t417 = true then (if t410 = (rd x10_1 a1) then ((dancestudiolaw08_awake.f kj40).bind fun t419 => (some t419)) else (some false)) else (some false)) = some r := H
                           have A63 := Aside0.mk A630
                           clear A630
                           by_cases c64 : t417 = true
                           ·
                            subst c64
                            have H1 : (if t410 = (rd x10_1 a1) then ((dancestudiolaw08_awake.f kj40).bind fun t419 => (some t419)) else (some false)) = some r := by rw [if_pos rfl] at H; exact H
                            clear H
                            have H := H1
                            clear H1
                            by_cases c65 : t410 = (rd x10_1 a1)
                            ·
                             rw [if_pos c65] at H
                             have c65b0 : (t410 == (rd x10_1 a1)) = true := beq_iff_eq.mpr c65
                             have c65b1 : (t410 != (rd x10_1 a1)) = false := bne_eq_false_iff_eq.mpr c65
                             clear c65
                             replace H := Option.bind_eq_some_iff.mp H
                             obtain ⟨t419, A660, H⟩ := H
                             replace H : (some t419) = some r := H
                             have A66 := Aside0.mk A660
                             clear A660
                             obtain rfl := Option.some.inj H
                             obtain ⟨Ao67, co67, eo67⟩ := Kd.R_slice HO_10.out
                             subst eo67
                             have p396 : 0 ≤ (a1 : Int) := of_decide_eq_true (by first | (with_reducible assumption) | assumption)
                             have q396 : a1 < (x10_1.length : Int) := of_decide_eq_true (by first | (with_reducible assumption) | assumption)
                             obtain ⟨ad396, e396, hx396_0⟩ := Kd.at_int (Kd.R_reads' HO_10.out).2.2 a1 p396 q396
                             cases e396
                             replace p396 := eq_true p396
                             replace q396 := eq_true q396
                             have p397 : 0 ≤ ((ji52) : Int) := of_decide_eq_true (by first | (with_reducible assumption) | assumption)
                             have q397 : (ji52) < (x9_1.length : Int) := of_decide_eq_true (by first | (with_reducible assumption) | assumption)
                             obtain ⟨ad397, e397, hx397_0⟩ := Kd.at_int (Kd.R_reads' HO_9.out).2.2 (ji52) p397 q397
                             cases e397
                             replace p397 := eq_true p397
                             replace q397 := eq_true q397
                             have p55 : 0 ≤ ((ji52) : Int) := of_decide_eq_true (by first | (with_reducible assumption) | assumption)
                             have q55 : ((ji52) : Int) < ((x9_1.length : Int) : Int) := of_decide_eq_true (by first | (with_reducible assumption) | assumption)
                             obtain ⟨go55, co55, eo55, gb55, gl55, cl55, HG55⟩ := Kd.R_form HO_9.out (by omega)
                             (first | cases eo55 | (injection eo55 with ea_ en_ ec_; (first | subst ea_ | (injection ea_ with ea_; subst ea_)); subst ec_; clear en_))
                             have GB55 := Aside0.mk gb55
                             have GG55 := Aside0.mk HG55
                             clear gb55 gl55 HG55
                             (first | simp only [add_plain] at hx397_0 | skip)
                             obtain ⟨hx55_0, hf55_0⟩ := Kd.R_celln 0 HO_9.out ((ji52) : Int) p55 q55
                             replace p55 := eq_true p55
                             replace q55 := eq_true q55
                             have HP68 := Kd.R_putg HO_9.out ((ji52) : Int) (Go.bits .xor .u8 (rd x9_1 (ji52)) a3)
                             go_wp2_with (first | ((with_reducible refine gate_store (t := 5) (p := 120) rfl ?_); refine store_event (t := 5) (p := 120) (v := ?vo_w69) (w1 := (wc.setCell ⟨go55, ((ji52) : Int).toNat, none⟩ (.int .u8 (Go.bits .xor .u8 (rd x9_1 (ji52)) a3)))) ?hg ?ho ?hn ?hr ?_; (case ho => rfl); (case hg => rfl); (case hn => rfl); (case hr => first | (go_simp; done) | (go_simp; rfl)); intro w69 hw; have hg : wc.grownBy w69 (some go55) := (by rw [hw]; exact HP68.2); have hp_ : Kd.R (Kd.int .u8) 5 w69 w.heap.size (fun _ => True) (.slice (some ⟨go55, 0, none⟩) x9_1.length co23) y398 := (by rw [hw, Ny398.out]; exact HP68.1); clear HP68; have n0_ := Aside0.mk (hp_); have n1_ := Aside0.mk (Kd.R_over' (v := (.slice (some ⟨go55, 0, none⟩) x9_1.length co23)) (by (with_reducible repeat (first | apply Kd.R_alloc | apply Kd.R_drewN | apply Kd.R_drew)); exact HO_10.out) (Kd.R_typed HO_9.out) (by decide) hg); have n2_ := Aside0.mk ((by rw [hw]; exact below_set (HB.out) GB55.out : Below w.heap.size w w69)); clear HO_9; clear HO_10; clear HB; have HO_9 := n0_; have HO_10 := n1_; have HB := n2_; clear n0_ n1_ n2_; clear hg hw hp_; have p399 : 0 ≤ (a1 : Int) := of_decide_eq_true (by first | (with_reducible assumption) | assumption); have q399 : a1 < (x10_1.length : Int) := of_decide_eq_true (by first | (with_reducible assumption) | assumption); obtain ⟨ad399, e399, hx399_0⟩ := Kd.at_int (Kd.R_reads' HO_10.out).2.2 a1 p399 q399; obtain rfl : ad396 = ad399 := (by injection e399); replace p399 := eq_true p399; replace q399 := eq_true q399; have hlx70 := (Kd.R_reads' HO_9.out).1; have q70 : ((rd x10_1 a1) : Int) ≤ ((x9_1.length : Int) : Int) := of_decide_eq_true (by first | (with_reducible assumption) | assumption); obtain ⟨i070, hi070, _, hsz70, _⟩ := info_parts info5; have hroom70 : x9_1.length ≤ co23 := (Kd.R_reads' HO_9.out).2.1; have hroomc70 : y398.length ≤ co23 := (by rw [← hlx70]; exact hroom70); have hC70 : Kd.C (Kd.int .u8) _ (some ⟨go55, 0, none⟩) y398.length y398 := (Kd.R_reads' HO_9.out).2.2; have q070 : (0 : Int) ≤ ((rd x10_1 a1) : Int) := of_decide_eq_true (by first | (with_reducible assumption) | assumption); have hcut70 := cut_from (P := Try.prog) 23 5 .i64 Try.underlying23 hi070 1 hsz70 (some ⟨go55, 0, none⟩) x9_1.length co23 (rd x10_1 a1) q070 q70; have hr70 := Kd.C_drop (m := ((rd x10_1 a1) : Int).toNat) (c := co23) hC70 (by omega) hroomc70; obtain ⟨A70, hA70⟩ : ∃ A1, A1 = (if co23 = ((rd x10_1 a1) : Int).toNat then (some ⟨go55, 0, none⟩) else ((some ⟨go55, 0, none⟩) : Option Addr).map (·.add (((rd x10_1 a1) : Int).toNat * 1))) := ⟨_, rfl⟩; obtain ⟨c70, hc70⟩ : ∃ c1, c1 = co23 - ((rd x10_1 a1) : Int).toNat := ⟨_, rfl⟩; have hy70 : y400.length = x9_1.length - ((rd x10_1 a1) : Int).toNat := (by rw [Ny400.out, List.length_drop] <;> omega); rw [show (y398).drop ((rd x10_1 a1) : Int).toNat = y400 from Ny400.out.symm] at hr70; replace hr70 : Kd.C (Kd.int .u8) _ A70 y400.length y400 := (by rw [hA70]; exact hr70); rw [← hy70, ← hA70, ← hc70] at hcut70; have HR403 := Aside0.mk hr70; have HC403 := Aside0.mk (show y400.length ≤ c70 from by rw [hy70, hc70]; exact Nat.sub_le_sub_right hroom70 _); clear hr70 hC70 hroom70 hi070 hsz70 hc70 hroomc70; have KY70 := Aside0.mk hy70; have KA70 := Aside0.mk hA70; clear hy70 hA70; have KE70 := Aside0.mk hlx70; have KL70 := Aside0.mk (show ((rd x10_1 a1) : Int).toNat ≤ y398.length from by omega); clear hlx70; replace q70 := eq_true q70) | ((with_reducible refine gate_callee (f := 19) rfl ?_); refine goesL_ (some 128) rfl rfl Try.func19 (by kernel_rfl) rfl #[.slice A70 y400.length c70] rfl (by (try simp only [List.map_toArray, List.map_cons, List.map_nil]); first | done | rfl | (simp only [List.length_drop, List.length_take]; rfl)) ?_; (with_reducible refine (crc_Open.calls kj40 _ _ y400 t404 t405 t406 _ ?side1 ?side2 A58.out).mono ?_); (case side1 => repeat (first | exact (by repeat (first | (with_reducible exact HR403.out) | (with_reducible refine Kd.C_alloc ?_ _) | (with_reducible refine Kd.C_drewN ?_ _) | (with_reducible refine Kd.C_drew ?_) | exact HR403.out)) | (with_reducible refine Kd.C_alloc ?_ _) | (with_reducible refine Kd.C_drewN ?_ _) | (with_reducible refine Kd.C_drew ?_))); (case side2 => exact HC403.out); rintro e w71 ⟨v407, rfl, ho0, hb⟩; refine ⟨_, rfl, ?_⟩; have n0_ := Aside0.mk (Kd.R_elder' (by (with_reducible repeat (first | apply Kd.R_alloc | apply Kd.R_drewN | apply Kd.R_drew)); exact HO_9.out) (Kd.R_base ho0) hb); have n1_ := Aside0.mk (Kd.R_below (by (with_reducible repeat (first | apply Kd.R_alloc | apply Kd.R_drewN | apply Kd.R_drew)); exact HO_10.out) hb); have n2_ := Aside0.mk (Kd.R_lower (Kd.R_new' ho0 (Kd.R_lt (by (with_reducible repeat (first | apply Kd.R_alloc | apply Kd.R_drewN | apply Kd.R_drew)); exact HO_9.out))) (below_size (by repeat (first | (with_reducible first | exact HB.out | apply below_alloc | apply pw_below_drewN | apply below_drew1) | exact HB.out)))); have n3_ := Aside0.mk (Kd.C_below (by repeat (first | (with_reducible exact HR403.out) | (with_reducible refine Kd.C_alloc ?_ _) | (with_reducible refine Kd.C_drewN ?_ _) | (with_reducible refine Kd.C_drew ?_) | exact HR403.out)) hb); have n4_ := Aside0.mk (below_step (by repeat (first | (with_reducible first | exact HB.out | apply below_alloc | apply pw_below_drewN | apply below_drew1) | exact HB.out)) hb); clear HO_9; clear HO_10; clear HR403; clear HB; have HO_9 := n0_; have HO_10 := n1_; have HO408 := n2_; have HR403 := n3_; have HB := n4_; clear n0_ n1_ n2_ n3_ n4_; (try clear hb); (try clear hb2); (try clear hk); (try clear hi); (try clear ho0)) | ((with_reducible refine gate_callee (f := 21) rfl ?_); refine goesL_ (some 134) rfl rfl Try.func21 (by kernel_rfl) rfl #[.slice (some ⟨go55, 0, none⟩) y398.length co23] rfl (by (try simp only [List.map_toArray, List.map_cons, List.map_nil]); first | done | (rw [show y398.length = x9_1.length from (Kd.R_reads' HO_9.out).1.symm] <;> rfl) | rfl | (simp only [List.length_drop, List.length_take]; rfl)) ?_; (with_reducible refine (crc_All.calls kj40 _ _ y398 t409 t410 _ ?side1 ?side2 A59.out).mono ?_); (case side1 => repeat (first | exact (Kd.R_reads' HO_9.out).2.2 | (with_reducible refine Kd.C_alloc ?_ _) | (with_reducible refine Kd.C_drewN ?_ _) | (with_reducible refine Kd.C_drew ?_))); (case side2 => rw [show y398.length = x9_1.length from (Kd.R_reads' HO_9.out).1.symm]; exact (Kd.R_reads' HO_9.out).2.1); rintro e w72 ⟨v411, rfl, ho0, hb⟩; refine ⟨_, rfl, ?_⟩; have n0_ := Aside0.mk (Kd.R_below (by (with_reducible repeat (first | apply Kd.R_alloc | apply Kd.R_drewN | apply Kd.R_drew)); exact HO_9.out) hb); have n1_ := Aside0.mk (Kd.R_below (by (with_reducible repeat (first | apply Kd.R_alloc | apply Kd.R_drewN | apply Kd.R_drew)); exact HO_10.out) hb); have n2_ := Aside0.mk (Kd.R_below (by (with_reducible repeat (first | apply Kd.R_alloc | apply Kd.R_drewN | apply Kd.R_drew)); exact HO408.out) hb); have n3_ := Aside0.mk (Kd.S_lower (Kd.S_new' (Kd.S_new' ho0 (Kd.R_lt (by (with_reducible repeat (first | apply Kd.R_alloc | apply Kd.R_drewN | apply Kd.R_drew)); exact HO_9.out))) (Kd.R_lt (by (with_reducible repeat (first | apply Kd.R_alloc | apply Kd.R_drewN | apply Kd.R_drew)); exact HO408.out))) (below_size (by repeat (first | (with_reducible first | exact HB.out | apply below_alloc | apply pw_below_drewN | apply below_drew1) | exact HB.out)))); have n4_ := Aside0.mk (Kd.C_below (by repeat (first | (with_reducible exact HR403.out) | (with_reducible refine Kd.C_alloc ?_ _) | (with_reducible refine Kd.C_drewN ?_ _) | (with_reducible refine Kd.C_drew ?_) | exact HR403.out)) hb); have n5_ := Aside0.mk (below_step (by repeat (first | (with_reducible first | exact HB.out | apply below_alloc | apply pw_below_drewN | apply below_drew1) | exact HB.out)) hb); clear HO_9; clear HO_10; clear HO408; clear HR403; clear HB; have HO_9 := n0_; have HO_10 := n1_; have HO408 := n2_; have HO412 := n3_; have HR403 := n4_; have HB := n5_; clear n0_ n1_ n2_ n3_ n4_ n5_; (try clear hb); (try clear hb2); (try clear hk); (try clear hi); (try clear ho0); have q73 : (a1 : Int) ≤ ((l0.length : Int) : Int) := of_decide_eq_true (by first | (with_reducible assumption) | assumption); obtain ⟨i073, hi073, _, hsz73, _⟩ := info_parts info23; have hroom73 : l0.length ≤ c0 := HC0.out; have hC73 : Kd.C (Kd.slice 5 (Kd.int .u8)) _ (some ad393) l0.length l0 := HR0.out; have hcut73 := cut_to (P := Try.prog) 38 23 .i64 Try.underlying38 hi073 (some ad393) l0.length c0 a1 (of_decide_eq_true (by first | (with_reducible assumption) | assumption)) q73 hroom73; have hr73 := Kd.C_take (m := (a1 : Int).toNat) hC73 (by omega); have hy73 : y413.length = (a1 : Int).toNat := (by rw [Ny413.out, List.length_take]; omega); rw [← Ny413.out] at hr73; rw [← hy73] at hcut73; have HR416 := Aside0.mk hr73; have HC416 := Aside0.mk (show y413.length ≤ c0 from by omega); clear hr73 hC73 hroom73 hi073 hsz73; have KY73 := Aside0.mk hy73; clear hy73; replace q73 := eq_true q73; obtain ⟨Ao74, co74, eo74⟩ := Kd.S_slice HO412.out; subst eo74) | (go_at_call 23; (with_reducible refine (dancestudiolaw08_lists.calls kj40 _ _ t409 _ _ y413 true _ ?side1 ?side2 ?side3 ?side4 A63.out).mono ?_); (case side1 => repeat (first | exact (Kd.S_reads' HO412.out).2.2 | (with_reducible refine Kd.C_alloc ?_ _) | (with_reducible refine Kd.C_drewN ?_ _) | (with_reducible refine Kd.C_drew ?_))); (case side2 => exact (Kd.S_reads' HO412.out).2.1); (case side3 => repeat (first | exact (Kd.C_below HR416.out HB.out) | (with_reducible refine Kd.C_alloc ?_ _) | (with_reducible refine Kd.C_drewN ?_ _) | (with_reducible refine Kd.C_drew ?_))); (case side4 => exact HC416.out); rintro e w' ⟨rfl, ⟨nd, rfl⟩⟩; have p418 : 0 ≤ (a1 : Int) := of_decide_eq_true (by first | (with_reducible assumption) | assumption); have q418 : a1 < (x10_1.length : Int) := of_decide_eq_true (by first | (with_reducible assumption) | assumption); obtain ⟨ad418, e418, hx418_0⟩ := Kd.at_int (Kd.R_reads' HO_10.out).2.2 a1 p418 q418; obtain rfl : ad396 = ad418 := (by injection e418); replace p418 := eq_true p418; replace q418 := eq_true q418) | (go_at_call 11; (with_reducible refine (dancestudiolaw08_awake.calls kj40  t419 _ A66.out).mono ?_); rintro e w75 ⟨rfl, hb⟩; have n0_ := Aside0.mk (Kd.R_below (by (with_reducible repeat (first | apply Kd.R_alloc | apply Kd.R_drewN | apply Kd.R_drew)); exact HO_9.out) hb); have n1_ := Aside0.mk (Kd.R_below (by (with_reducible repeat (first | apply Kd.R_alloc | apply Kd.R_drewN | apply Kd.R_drew)); exact HO_10.out) hb); have n2_ := Aside0.mk (Kd.R_below (by (with_reducible repeat (first | apply Kd.R_alloc | apply Kd.R_drewN | apply Kd.R_drew)); exact HO408.out) hb); have n3_ := Aside0.mk (Kd.S_below (by (with_reducible repeat (first | apply Kd.S_alloc | apply Kd.S_drewN | apply Kd.S_drew)); exact HO412.out) hb); have n4_ := Aside0.mk (Kd.C_below (by repeat (first | (with_reducible exact HR403.out) | (with_reducible refine Kd.C_alloc ?_ _) | (with_reducible refine Kd.C_drewN ?_ _) | (with_reducible refine Kd.C_drew ?_) | exact HR403.out)) hb); have n5_ := Aside0.mk (below_step (by repeat (first | (with_reducible first | exact HB.out | apply below_alloc | apply pw_below_drewN | apply below_drew1) | exact HB.out)) hb); clear HO_9; clear HO_10; clear HO408; clear HO412; clear HR403; clear HB; have HO_9 := n0_; have HO_10 := n1_; have HO408 := n2_; have HO412 := n3_; have HR403 := n4_; have HB := n5_; clear n0_ n1_ n2_ n3_ n4_ n5_; (try clear hb); (try clear hb2); (try clear hk); (try clear hi)))
                             go_ret
                             exact ⟨by first | rfl | (simp [errW_none, errW_some] <;> rfl) | (simp only [← hji52]; first | rfl | (simp [errW_none, errW_some] <;> rfl)) | (simp [*, errW_none, errW_some] <;> rfl), by repeat (first | (with_reducible first | exact HB.out | apply below_alloc | apply pw_below_drewN | apply below_drew1) | exact HB.out)⟩
                            ·
                             rw [if_neg c65] at H
                             have c65b0 : (t410 == (rd x10_1 a1)) = false := beq_eq_false_iff_ne.mpr c65
                             have c65b1 : (t410 != (rd x10_1 a1)) = true := bne_iff_ne.mpr c65
                             obtain rfl := Option.some.inj H
                             obtain ⟨Ao76, co76, eo76⟩ := Kd.R_slice HO_10.out
                             subst eo76
                             have p396 : 0 ≤ (a1 : Int) := of_decide_eq_true (by first | (with_reducible assumption) | assumption)
                             have q396 : a1 < (x10_1.length : Int) := of_decide_eq_true (by first | (with_reducible assumption) | assumption)
                             obtain ⟨ad396, e396, hx396_0⟩ := Kd.at_int (Kd.R_reads' HO_10.out).2.2 a1 p396 q396
                             cases e396
                             replace p396 := eq_true p396
                             replace q396 := eq_true q396
                             have p397 : 0 ≤ ((ji52) : Int) := of_decide_eq_true (by first | (with_reducible assumption) | assumption)
                             have q397 : (ji52) < (x9_1.length : Int) := of_decide_eq_true (by first | (with_reducible assumption) | assumption)
                             obtain ⟨ad397, e397, hx397_0⟩ := Kd.at_int (Kd.R_reads' HO_9.out).2.2 (ji52) p397 q397
                             cases e397
                             replace p397 := eq_true p397
                             replace q397 := eq_true q397
                             have p55 : 0 ≤ ((ji52) : Int) := of_decide_eq_true (by first | (with_reducible assumption) | assumption)
                             have q55 : ((ji52) : Int) < ((x9_1.length : Int) : Int) := of_decide_eq_true (by first | (with_reducible assumption) | assumption)
                             obtain ⟨go55, co55, eo55, gb55, gl55, cl55, HG55⟩ := Kd.R_form HO_9.out (by omega)
                             (first | cases eo55 | (injection eo55 with ea_ en_ ec_; (first | subst ea_ | (injection ea_ with ea_; subst ea_)); subst ec_; clear en_))
                             have GB55 := Aside0.mk gb55
                             have GG55 := Aside0.mk HG55
                             clear gb55 gl55 HG55
                             (first | simp only [add_plain] at hx397_0 | skip)
                             obtain ⟨hx55_0, hf55_0⟩ := Kd.R_celln 0 HO_9.out ((ji52) : Int) p55 q55
                             replace p55 := eq_true p55
                             replace q55 := eq_true q55
                             have HP77 := Kd.R_putg HO_9.out ((ji52) : Int) (Go.bits .xor .u8 (rd x9_1 (ji52)) a3)
                             go_wp2_with (first | ((with_reducible refine gate_store (t := 5) (p := 120) rfl ?_); refine store_event (t := 5) (p := 120) (v := ?vo_w78) (w1 := (wc.setCell ⟨go55, ((ji52) : Int).toNat, none⟩ (.int .u8 (Go.bits .xor .u8 (rd x9_1 (ji52)) a3)))) ?hg ?ho ?hn ?hr ?_; (case ho => rfl); (case hg => rfl); (case hn => rfl); (case hr => first | (go_simp; done) | (go_simp; rfl)); intro w78 hw; have hg : wc.grownBy w78 (some go55) := (by rw [hw]; exact HP77.2); have hp_ : Kd.R (Kd.int .u8) 5 w78 w.heap.size (fun _ => True) (.slice (some ⟨go55, 0, none⟩) x9_1.length co23) y398 := (by rw [hw, Ny398.out]; exact HP77.1); clear HP77; have n0_ := Aside0.mk (hp_); have n1_ := Aside0.mk (Kd.R_over' (v := (.slice (some ⟨go55, 0, none⟩) x9_1.length co23)) (by (with_reducible repeat (first | apply Kd.R_alloc | apply Kd.R_drewN | apply Kd.R_drew)); exact HO_10.out) (Kd.R_typed HO_9.out) (by decide) hg); have n2_ := Aside0.mk ((by rw [hw]; exact below_set (HB.out) GB55.out : Below w.heap.size w w78)); clear HO_9; clear HO_10; clear HB; have HO_9 := n0_; have HO_10 := n1_; have HB := n2_; clear n0_ n1_ n2_; clear hg hw hp_; have p399 : 0 ≤ (a1 : Int) := of_decide_eq_true (by first | (with_reducible assumption) | assumption); have q399 : a1 < (x10_1.length : Int) := of_decide_eq_true (by first | (with_reducible assumption) | assumption); obtain ⟨ad399, e399, hx399_0⟩ := Kd.at_int (Kd.R_reads' HO_10.out).2.2 a1 p399 q399; obtain rfl : ad396 = ad399 := (by injection e399); replace p399 := eq_true p399; replace q399 := eq_true q399; have hlx79 := (Kd.R_reads' HO_9.out).1; have q79 : ((rd x10_1 a1) : Int) ≤ ((x9_1.length : Int) : Int) := of_decide_eq_true (by first | (with_reducible assumption) | assumption); obtain ⟨i079, hi079, _, hsz79, _⟩ := info_parts info5; have hroom79 : x9_1.length ≤ co23 := (Kd.R_reads' HO_9.out).2.1; have hroomc79 : y398.length ≤ co23 := (by rw [← hlx79]; exact hroom79); have hC79 : Kd.C (Kd.int .u8) _ (some ⟨go55, 0, none⟩) y398.length y398 := (Kd.R_reads' HO_9.out).2.2; have q079 : (0 : Int) ≤ ((rd x10_1 a1) : Int) := of_decide_eq_true (by first | (with_reducible assumption) | assumption); have hcut79 := cut_from (P := Try.prog) 23 5 .i64 Try.underlying23 hi079 1 hsz79 (some ⟨go55, 0, none⟩) x9_1.length co23 (rd x10_1 a1) q079 q79; have hr79 := Kd.C_drop (m := ((rd x10_1 a1) : Int).toNat) (c := co23) hC79 (by omega) hroomc79; obtain ⟨A79, hA79⟩ : ∃ A1, A1 = (if co23 = ((rd x10_1 a1) : Int).toNat then (some ⟨go55, 0, none⟩) else ((some ⟨go55, 0, none⟩) : Option Addr).map (·.add (((rd x10_1 a1) : Int).toNat * 1))) := ⟨_, rfl⟩; obtain ⟨c79, hc79⟩ : ∃ c1, c1 = co23 - ((rd x10_1 a1) : Int).toNat := ⟨_, rfl⟩; have hy79 : y400.length = x9_1.length - ((rd x10_1 a1) : Int).toNat := (by rw [Ny400.out, List.length_drop] <;> omega); rw [show (y398).drop ((rd x10_1 a1) : Int).toNat = y400 from Ny400.out.symm] at hr79; replace hr79 : Kd.C (Kd.int .u8) _ A79 y400.length y400 := (by rw [hA79]; exact hr79); rw [← hy79, ← hA79, ← hc79] at hcut79; have HR403 := Aside0.mk hr79; have HC403 := Aside0.mk (show y400.length ≤ c79 from by rw [hy79, hc79]; exact Nat.sub_le_sub_right hroom79 _); clear hr79 hC79 hroom79 hi079 hsz79 hc79 hroomc79; have KY79 := Aside0.mk hy79; have KA79 := Aside0.mk hA79; clear hy79 hA79; have KE79 := Aside0.mk hlx79; have KL79 := Aside0.mk (show ((rd x10_1 a1) : Int).toNat ≤ y398.length from by omega); clear hlx79; replace q79 := eq_true q79) | ((with_reducible refine gate_callee (f := 19) rfl ?_); refine goesL_ (some 128) rfl rfl Try.func19 (by kernel_rfl) rfl #[.slice A79 y400.length c79] rfl (by (try simp only [List.map_toArray, List.map_cons, List.map_nil]); first | done | rfl | (simp only [List.length_drop, List.length_take]; rfl)) ?_; (with_reducible refine (crc_Open.calls kj40 _ _ y400 t404 t405 t406 _ ?side1 ?side2 A58.out).mono ?_); (case side1 => repeat (first | exact (by repeat (first | (with_reducible exact HR403.out) | (with_reducible refine Kd.C_alloc ?_ _) | (with_reducible refine Kd.C_drewN ?_ _) | (with_reducible refine Kd.C_drew ?_) | exact HR403.out)) | (with_reducible refine Kd.C_alloc ?_ _) | (with_reducible refine Kd.C_drewN ?_ _) | (with_reducible refine Kd.C_drew ?_))); (case side2 => exact HC403.out); rintro e w80 ⟨v407, rfl, ho0, hb⟩; refine ⟨_, rfl, ?_⟩; have n0_ := Aside0.mk (Kd.R_elder' (by (with_reducible repeat (first | apply Kd.R_alloc | apply Kd.R_drewN | apply Kd.R_drew)); exact HO_9.out) (Kd.R_base ho0) hb); have n1_ := Aside0.mk (Kd.R_below (by (with_reducible repeat (first | apply Kd.R_alloc | apply Kd.R_drewN | apply Kd.R_drew)); exact HO_10.out) hb); have n2_ := Aside0.mk (Kd.R_lower (Kd.R_new' ho0 (Kd.R_lt (by (with_reducible repeat (first | apply Kd.R_alloc | apply Kd.R_drewN | apply Kd.R_drew)); exact HO_9.out))) (below_size (by repeat (first | (with_reducible first | exact HB.out | apply below_alloc | apply pw_below_drewN | apply below_drew1) | exact HB.out)))); have n3_ := Aside0.mk (Kd.C_below (by repeat (first | (with_reducible exact HR403.out) | (with_reducible refine Kd.C_alloc ?_ _) | (with_reducible refine Kd.C_drewN ?_ _) | (with_reducible refine Kd.C_drew ?_) | exact HR403.out)) hb); have n4_ := Aside0.mk (below_step (by repeat (first | (with_reducible first | exact HB.out | apply below_alloc | apply pw_below_drewN | apply below_drew1) | exact HB.out)) hb); clear HO_9; clear HO_10; clear HR403; clear HB; have HO_9 := n0_; have HO_10 := n1_; have HO408 := n2_; have HR403 := n3_; have HB := n4_; clear n0_ n1_ n2_ n3_ n4_; (try clear hb); (try clear hb2); (try clear hk); (try clear hi); (try clear ho0)) | ((with_reducible refine gate_callee (f := 21) rfl ?_); refine goesL_ (some 134) rfl rfl Try.func21 (by kernel_rfl) rfl #[.slice (some ⟨go55, 0, none⟩) y398.length co23] rfl (by (try simp only [List.map_toArray, List.map_cons, List.map_nil]); first | done | (rw [show y398.length = x9_1.length from (Kd.R_reads' HO_9.out).1.symm] <;> rfl) | rfl | (simp only [List.length_drop, List.length_take]; rfl)) ?_; (with_reducible refine (crc_All.calls kj40 _ _ y398 t409 t410 _ ?side1 ?side2 A59.out).mono ?_); (case side1 => repeat (first | exact (Kd.R_reads' HO_9.out).2.2 | (with_reducible refine Kd.C_alloc ?_ _) | (with_reducible refine Kd.C_drewN ?_ _) | (with_reducible refine Kd.C_drew ?_))); (case side2 => rw [show y398.length = x9_1.length from (Kd.R_reads' HO_9.out).1.symm]; exact (Kd.R_reads' HO_9.out).2.1); rintro e w81 ⟨v411, rfl, ho0, hb⟩; refine ⟨_, rfl, ?_⟩; have n0_ := Aside0.mk (Kd.R_below (by (with_reducible repeat (first | apply Kd.R_alloc | apply Kd.R_drewN | apply Kd.R_drew)); exact HO_9.out) hb); have n1_ := Aside0.mk (Kd.R_below (by (with_reducible repeat (first | apply Kd.R_alloc | apply Kd.R_drewN | apply Kd.R_drew)); exact HO_10.out) hb); have n2_ := Aside0.mk (Kd.R_below (by (with_reducible repeat (first | apply Kd.R_alloc | apply Kd.R_drewN | apply Kd.R_drew)); exact HO408.out) hb); have n3_ := Aside0.mk (Kd.S_lower (Kd.S_new' (Kd.S_new' ho0 (Kd.R_lt (by (with_reducible repeat (first | apply Kd.R_alloc | apply Kd.R_drewN | apply Kd.R_drew)); exact HO_9.out))) (Kd.R_lt (by (with_reducible repeat (first | apply Kd.R_alloc | apply Kd.R_drewN | apply Kd.R_drew)); exact HO408.out))) (below_size (by repeat (first | (with_reducible first | exact HB.out | apply below_alloc | apply pw_below_drewN | apply below_drew1) | exact HB.out)))); have n4_ := Aside0.mk (Kd.C_below (by repeat (first | (with_reducible exact HR403.out) | (with_reducible refine Kd.C_alloc ?_ _) | (with_reducible refine Kd.C_drewN ?_ _) | (with_reducible refine Kd.C_drew ?_) | exact HR403.out)) hb); have n5_ := Aside0.mk (below_step (by repeat (first | (with_reducible first | exact HB.out | apply below_alloc | apply pw_below_drewN | apply below_drew1) | exact HB.out)) hb); clear HO_9; clear HO_10; clear HO408; clear HR403; clear HB; have HO_9 := n0_; have HO_10 := n1_; have HO408 := n2_; have HO412 := n3_; have HR403 := n4_; have HB := n5_; clear n0_ n1_ n2_ n3_ n4_ n5_; (try clear hb); (try clear hb2); (try clear hk); (try clear hi); (try clear ho0); have q82 : (a1 : Int) ≤ ((l0.length : Int) : Int) := of_decide_eq_true (by first | (with_reducible assumption) | assumption); obtain ⟨i082, hi082, _, hsz82, _⟩ := info_parts info23; have hroom82 : l0.length ≤ c0 := HC0.out; have hC82 : Kd.C (Kd.slice 5 (Kd.int .u8)) _ (some ad393) l0.length l0 := HR0.out; have hcut82 := cut_to (P := Try.prog) 38 23 .i64 Try.underlying38 hi082 (some ad393) l0.length c0 a1 (of_decide_eq_true (by first | (with_reducible assumption) | assumption)) q82 hroom82; have hr82 := Kd.C_take (m := (a1 : Int).toNat) hC82 (by omega); have hy82 : y413.length = (a1 : Int).toNat := (by rw [Ny413.out, List.length_take]; omega); rw [← Ny413.out] at hr82; rw [← hy82] at hcut82; have HR416 := Aside0.mk hr82; have HC416 := Aside0.mk (show y413.length ≤ c0 from by omega); clear hr82 hC82 hroom82 hi082 hsz82; have KY82 := Aside0.mk hy82; clear hy82; replace q82 := eq_true q82; obtain ⟨Ao83, co83, eo83⟩ := Kd.S_slice HO412.out; subst eo83) | (go_at_call 23; (with_reducible refine (dancestudiolaw08_lists.calls kj40 _ _ t409 _ _ y413 true _ ?side1 ?side2 ?side3 ?side4 A63.out).mono ?_); (case side1 => repeat (first | exact (Kd.S_reads' HO412.out).2.2 | (with_reducible refine Kd.C_alloc ?_ _) | (with_reducible refine Kd.C_drewN ?_ _) | (with_reducible refine Kd.C_drew ?_))); (case side2 => exact (Kd.S_reads' HO412.out).2.1); (case side3 => repeat (first | exact (Kd.C_below HR416.out HB.out) | (with_reducible refine Kd.C_alloc ?_ _) | (with_reducible refine Kd.C_drewN ?_ _) | (with_reducible refine Kd.C_drew ?_))); (case side4 => exact HC416.out); rintro e w' ⟨rfl, ⟨nd, rfl⟩⟩; have p418 : 0 ≤ (a1 : Int) := of_decide_eq_true (by first | (with_reducible assumption) | assumption); have q418 : a1 < (x10_1.length : Int) := of_decide_eq_true (by first | (with_reducible assumption) | assumption); obtain ⟨ad418, e418, hx418_0⟩ := Kd.at_int (Kd.R_reads' HO_10.out).2.2 a1 p418 q418; obtain rfl : ad396 = ad418 := (by injection e418); replace p418 := eq_true p418; replace q418 := eq_true q418))
                             go_ret
                             exact ⟨by first | rfl | (simp [errW_none, errW_some] <;> rfl) | (simp only [← hji52]; first | rfl | (simp [errW_none, errW_some] <;> rfl)) | (simp [*, errW_none, errW_some] <;> rfl), by repeat (first | (with_reducible first | exact HB.out | apply below_alloc | apply pw_below_drewN | apply below_drew1) | exact HB.out)⟩
                           ·
                            replace c64 := Bool.eq_false_iff.mpr c64
                            subst c64
                            have H1 : (some false) = some r := by rw [if_neg (show ¬ (false = true) by decide)] at H; exact H
                            clear H
                            have H := H1
                            clear H1
                            obtain rfl := Option.some.inj H
                            obtain ⟨Ao84, co84, eo84⟩ := Kd.R_slice HO_10.out
                            subst eo84
                            have p396 : 0 ≤ (a1 : Int) := of_decide_eq_true (by first | (with_reducible assumption) | assumption)
                            have q396 : a1 < (x10_1.length : Int) := of_decide_eq_true (by first | (with_reducible assumption) | assumption)
                            obtain ⟨ad396, e396, hx396_0⟩ := Kd.at_int (Kd.R_reads' HO_10.out).2.2 a1 p396 q396
                            cases e396
                            replace p396 := eq_true p396
                            replace q396 := eq_true q396
                            have p397 : 0 ≤ ((ji52) : Int) := of_decide_eq_true (by first | (with_reducible assumption) | assumption)
                            have q397 : (ji52) < (x9_1.length : Int) := of_decide_eq_true (by first | (with_reducible assumption) | assumption)
                            obtain ⟨ad397, e397, hx397_0⟩ := Kd.at_int (Kd.R_reads' HO_9.out).2.2 (ji52) p397 q397
                            cases e397
                            replace p397 := eq_true p397
                            replace q397 := eq_true q397
                            have p55 : 0 ≤ ((ji52) : Int) := of_decide_eq_true (by first | (with_reducible assumption) | assumption)
                            have q55 : ((ji52) : Int) < ((x9_1.length : Int) : Int) := of_decide_eq_true (by first | (with_reducible assumption) | assumption)
                            obtain ⟨go55, co55, eo55, gb55, gl55, cl55, HG55⟩ := Kd.R_form HO_9.out (by omega)
                            (first | cases eo55 | (injection eo55 with ea_ en_ ec_; (first | subst ea_ | (injection ea_ with ea_; subst ea_)); subst ec_; clear en_))
                            have GB55 := Aside0.mk gb55
                            have GG55 := Aside0.mk HG55
                            clear gb55 gl55 HG55
                            (first | simp only [add_plain] at hx397_0 | skip)
                            obtain ⟨hx55_0, hf55_0⟩ := Kd.R_celln 0 HO_9.out ((ji52) : Int) p55 q55
                            replace p55 := eq_true p55
                            replace q55 := eq_true q55
                            have HP85 := Kd.R_putg HO_9.out ((ji52) : Int) (Go.bits .xor .u8 (rd x9_1 (ji52)) a3)
                            go_wp2_with (first | ((with_reducible refine gate_store (t := 5) (p := 120) rfl ?_); refine store_event (t := 5) (p := 120) (v := ?vo_w86) (w1 := (wc.setCell ⟨go55, ((ji52) : Int).toNat, none⟩ (.int .u8 (Go.bits .xor .u8 (rd x9_1 (ji52)) a3)))) ?hg ?ho ?hn ?hr ?_; (case ho => rfl); (case hg => rfl); (case hn => rfl); (case hr => first | (go_simp; done) | (go_simp; rfl)); intro w86 hw; have hg : wc.grownBy w86 (some go55) := (by rw [hw]; exact HP85.2); have hp_ : Kd.R (Kd.int .u8) 5 w86 w.heap.size (fun _ => True) (.slice (some ⟨go55, 0, none⟩) x9_1.length co23) y398 := (by rw [hw, Ny398.out]; exact HP85.1); clear HP85; have n0_ := Aside0.mk (hp_); have n1_ := Aside0.mk (Kd.R_over' (v := (.slice (some ⟨go55, 0, none⟩) x9_1.length co23)) (by (with_reducible repeat (first | apply Kd.R_alloc | apply Kd.R_drewN | apply Kd.R_drew)); exact HO_10.out) (Kd.R_typed HO_9.out) (by decide) hg); have n2_ := Aside0.mk ((by rw [hw]; exact below_set (HB.out) GB55.out : Below w.heap.size w w86)); clear HO_9; clear HO_10; clear HB; have HO_9 := n0_; have HO_10 := n1_; have HB := n2_; clear n0_ n1_ n2_; clear hg hw hp_; have p399 : 0 ≤ (a1 : Int) := of_decide_eq_true (by first | (with_reducible assumption) | assumption); have q399 : a1 < (x10_1.length : Int) := of_decide_eq_true (by first | (with_reducible assumption) | assumption); obtain ⟨ad399, e399, hx399_0⟩ := Kd.at_int (Kd.R_reads' HO_10.out).2.2 a1 p399 q399; obtain rfl : ad396 = ad399 := (by injection e399); replace p399 := eq_true p399; replace q399 := eq_true q399; have hlx87 := (Kd.R_reads' HO_9.out).1; have q87 : ((rd x10_1 a1) : Int) ≤ ((x9_1.length : Int) : Int) := of_decide_eq_true (by first | (with_reducible assumption) | assumption); obtain ⟨i087, hi087, _, hsz87, _⟩ := info_parts info5; have hroom87 : x9_1.length ≤ co23 := (Kd.R_reads' HO_9.out).2.1; have hroomc87 : y398.length ≤ co23 := (by rw [← hlx87]; exact hroom87); have hC87 : Kd.C (Kd.int .u8) _ (some ⟨go55, 0, none⟩) y398.length y398 := (Kd.R_reads' HO_9.out).2.2; have q087 : (0 : Int) ≤ ((rd x10_1 a1) : Int) := of_decide_eq_true (by first | (with_reducible assumption) | assumption); have hcut87 := cut_from (P := Try.prog) 23 5 .i64 Try.underlying23 hi087 1 hsz87 (some ⟨go55, 0, none⟩) x9_1.length co23 (rd x10_1 a1) q087 q87; have hr87 := Kd.C_drop (m := ((rd x10_1 a1) : Int).toNat) (c := co23) hC87 (by omega) hroomc87; obtain ⟨A87, hA87⟩ : ∃ A1, A1 = (if co23 = ((rd x10_1 a1) : Int).toNat then (some ⟨go55, 0, none⟩) else ((some ⟨go55, 0, none⟩) : Option Addr).map (·.add (((rd x10_1 a1) : Int).toNat * 1))) := ⟨_, rfl⟩; obtain ⟨c87, hc87⟩ : ∃ c1, c1 = co23 - ((rd x10_1 a1) : Int).toNat := ⟨_, rfl⟩; have hy87 : y400.length = x9_1.length - ((rd x10_1 a1) : Int).toNat := (by rw [Ny400.out, List.length_drop] <;> omega); rw [show (y398).drop ((rd x10_1 a1) : Int).toNat = y400 from Ny400.out.symm] at hr87; replace hr87 : Kd.C (Kd.int .u8) _ A87 y400.length y400 := (by rw [hA87]; exact hr87); rw [← hy87, ← hA87, ← hc87] at hcut87; have HR403 := Aside0.mk hr87; have HC403 := Aside0.mk (show y400.length ≤ c87 from by rw [hy87, hc87]; exact Nat.sub_le_sub_right hroom87 _); clear hr87 hC87 hroom87 hi087 hsz87 hc87 hroomc87; have KY87 := Aside0.mk hy87; have KA87 := Aside0.mk hA87; clear hy87 hA87; have KE87 := Aside0.mk hlx87; have KL87 := Aside0.mk (show ((rd x10_1 a1) : Int).toNat ≤ y398.length from by omega); clear hlx87; replace q87 := eq_true q87) | ((with_reducible refine gate_callee (f := 19) rfl ?_); refine goesL_ (some 128) rfl rfl Try.func19 (by kernel_rfl) rfl #[.slice A87 y400.length c87] rfl (by (try simp only [List.map_toArray, List.map_cons, List.map_nil]); first | done | rfl | (simp only [List.length_drop, List.length_take]; rfl)) ?_; (with_reducible refine (crc_Open.calls kj40 _ _ y400 t404 t405 t406 _ ?side1 ?side2 A58.out).mono ?_); (case side1 => repeat (first | exact (by repeat (first | (with_reducible exact HR403.out) | (with_reducible refine Kd.C_alloc ?_ _) | (with_reducible refine Kd.C_drewN ?_ _) | (with_reducible refine Kd.C_drew ?_) | exact HR403.out)) | (with_reducible refine Kd.C_alloc ?_ _) | (with_reducible refine Kd.C_drewN ?_ _) | (with_reducible refine Kd.C_drew ?_))); (case side2 => exact HC403.out); rintro e w88 ⟨v407, rfl, ho0, hb⟩; refine ⟨_, rfl, ?_⟩; have n0_ := Aside0.mk (Kd.R_elder' (by (with_reducible repeat (first | apply Kd.R_alloc | apply Kd.R_drewN | apply Kd.R_drew)); exact HO_9.out) (Kd.R_base ho0) hb); have n1_ := Aside0.mk (Kd.R_below (by (with_reducible repeat (first | apply Kd.R_alloc | apply Kd.R_drewN | apply Kd.R_drew)); exact HO_10.out) hb); have n2_ := Aside0.mk (Kd.R_lower (Kd.R_new' ho0 (Kd.R_lt (by (with_reducible repeat (first | apply Kd.R_alloc | apply Kd.R_drewN | apply Kd.R_drew)); exact HO_9.out))) (below_size (by repeat (first | (with_reducible first | exact HB.out | apply below_alloc | apply pw_below_drewN | apply below_drew1) | exact HB.out)))); have n3_ := Aside0.mk (Kd.C_below (by repeat (first | (with_reducible exact HR403.out) | (with_reducible refine Kd.C_alloc ?_ _) | (with_reducible refine Kd.C_drewN ?_ _) | (with_reducible refine Kd.C_drew ?_) | exact HR403.out)) hb); have n4_ := Aside0.mk (below_step (by repeat (first | (with_reducible first | exact HB.out | apply below_alloc | apply pw_below_drewN | apply below_drew1) | exact HB.out)) hb); clear HO_9; clear HO_10; clear HR403; clear HB; have HO_9 := n0_; have HO_10 := n1_; have HO408 := n2_; have HR403 := n3_; have HB := n4_; clear n0_ n1_ n2_ n3_ n4_; (try clear hb); (try clear hb2); (try clear hk); (try clear hi); (try clear ho0)) | ((with_reducible refine gate_callee (f := 21) rfl ?_); refine goesL_ (some 134) rfl rfl Try.func21 (by kernel_rfl) rfl #[.slice (some ⟨go55, 0, none⟩) y398.length co23] rfl (by (try simp only [List.map_toArray, List.map_cons, List.map_nil]); first | done | (rw [show y398.length = x9_1.length from (Kd.R_reads' HO_9.out).1.symm] <;> rfl) | rfl | (simp only [List.length_drop, List.length_take]; rfl)) ?_; (with_reducible refine (crc_All.calls kj40 _ _ y398 t409 t410 _ ?side1 ?side2 A59.out).mono ?_); (case side1 => repeat (first | exact (Kd.R_reads' HO_9.out).2.2 | (with_reducible refine Kd.C_alloc ?_ _) | (with_reducible refine Kd.C_drewN ?_ _) | (with_reducible refine Kd.C_drew ?_))); (case side2 => rw [show y398.length = x9_1.length from (Kd.R_reads' HO_9.out).1.symm]; exact (Kd.R_reads' HO_9.out).2.1); rintro e w89 ⟨v411, rfl, ho0, hb⟩; refine ⟨_, rfl, ?_⟩; have n0_ := Aside0.mk (Kd.R_below (by (with_reducible repeat (first | apply Kd.R_alloc | apply Kd.R_drewN | apply Kd.R_drew)); exact HO_9.out) hb); have n1_ := Aside0.mk (Kd.R_below (by (with_reducible repeat (first | apply Kd.R_alloc | apply Kd.R_drewN | apply Kd.R_drew)); exact HO_10.out) hb); have n2_ := Aside0.mk (Kd.R_below (by (with_reducible repeat (first | apply Kd.R_alloc | apply Kd.R_drewN | apply Kd.R_drew)); exact HO408.out) hb); have n3_ := Aside0.mk (Kd.S_lower (Kd.S_new' (Kd.S_new' ho0 (Kd.R_lt (by (with_reducible repeat (first | apply Kd.R_alloc | apply Kd.R_drewN | apply Kd.R_drew)); exact HO_9.out))) (Kd.R_lt (by (with_reducible repeat (first | apply Kd.R_alloc | apply Kd.R_drewN | apply Kd.R_drew)); exact HO408.out))) (below_size (by repeat (first | (with_reducible first | exact HB.out | apply below_alloc | apply pw_below_drewN | apply below_drew1) | exact HB.out)))); have n4_ := Aside0.mk (Kd.C_below (by repeat (first | (with_reducible exact HR403.out) | (with_reducible refine Kd.C_alloc ?_ _) | (with_reducible refine Kd.C_drewN ?_ _) | (with_reducible refine Kd.C_drew ?_) | exact HR403.out)) hb); have n5_ := Aside0.mk (below_step (by repeat (first | (with_reducible first | exact HB.out | apply below_alloc | apply pw_below_drewN | apply below_drew1) | exact HB.out)) hb); clear HO_9; clear HO_10; clear HO408; clear HR403; clear HB; have HO_9 := n0_; have HO_10 := n1_; have HO408 := n2_; have HO412 := n3_; have HR403 := n4_; have HB := n5_; clear n0_ n1_ n2_ n3_ n4_ n5_; (try clear hb); (try clear hb2); (try clear hk); (try clear hi); (try clear ho0); have q90 : (a1 : Int) ≤ ((l0.length : Int) : Int) := of_decide_eq_true (by first | (with_reducible assumption) | assumption); obtain ⟨i090, hi090, _, hsz90, _⟩ := info_parts info23; have hroom90 : l0.length ≤ c0 := HC0.out; have hC90 : Kd.C (Kd.slice 5 (Kd.int .u8)) _ (some ad393) l0.length l0 := HR0.out; have hcut90 := cut_to (P := Try.prog) 38 23 .i64 Try.underlying38 hi090 (some ad393) l0.length c0 a1 (of_decide_eq_true (by first | (with_reducible assumption) | assumption)) q90 hroom90; have hr90 := Kd.C_take (m := (a1 : Int).toNat) hC90 (by omega); have hy90 : y413.length = (a1 : Int).toNat := (by rw [Ny413.out, List.length_take]; omega); rw [← Ny413.out] at hr90; rw [← hy90] at hcut90; have HR416 := Aside0.mk hr90; have HC416 := Aside0.mk (show y413.length ≤ c0 from by omega); clear hr90 hC90 hroom90 hi090 hsz90; have KY90 := Aside0.mk hy90; clear hy90; replace q90 := eq_true q90; obtain ⟨Ao91, co91, eo91⟩ := Kd.S_slice HO412.out; subst eo91) | (go_at_call 23; (with_reducible refine (dancestudiolaw08_lists.calls kj40 _ _ t409 _ _ y413 false _ ?side1 ?side2 ?side3 ?side4 A63.out).mono ?_); (case side1 => repeat (first | exact (Kd.S_reads' HO412.out).2.2 | (with_reducible refine Kd.C_alloc ?_ _) | (with_reducible refine Kd.C_drewN ?_ _) | (with_reducible refine Kd.C_drew ?_))); (case side2 => exact (Kd.S_reads' HO412.out).2.1); (case side3 => repeat (first | exact (Kd.C_below HR416.out HB.out) | (with_reducible refine Kd.C_alloc ?_ _) | (with_reducible refine Kd.C_drewN ?_ _) | (with_reducible refine Kd.C_drew ?_))); (case side4 => exact HC416.out); rintro e w' ⟨rfl, ⟨nd, rfl⟩⟩))
                            go_ret
                            exact ⟨by first | rfl | (simp [errW_none, errW_some] <;> rfl) | (simp only [← hji52]; first | rfl | (simp [errW_none, errW_some] <;> rfl)) | (simp [*, errW_none, errW_some] <;> rfl), by repeat (first | (with_reducible first | exact HB.out | apply below_alloc | apply pw_below_drewN | apply below_drew1) | exact HB.out)⟩
                          ·
                           rw [if_neg c62] at H
                           exact absurd H (by simp)
                         ·
                          rw [if_neg c60] at H
                          have c60b0 : (t406 == 14) = false := beq_eq_false_iff_ne.mpr c60
                          have c60b1 : (t406 != 14) = true := bne_iff_ne.mpr c60
                          obtain rfl := Option.some.inj H
                          obtain ⟨Ao92, co92, eo92⟩ := Kd.R_slice HO_10.out
                          subst eo92
                          have p396 : 0 ≤ (a1 : Int) := of_decide_eq_true (by first | (with_reducible assumption) | assumption)
                          have q396 : a1 < (x10_1.length : Int) := of_decide_eq_true (by first | (with_reducible assumption) | assumption)
                          obtain ⟨ad396, e396, hx396_0⟩ := Kd.at_int (Kd.R_reads' HO_10.out).2.2 a1 p396 q396
                          cases e396
                          replace p396 := eq_true p396
                          replace q396 := eq_true q396
                          have p397 : 0 ≤ ((ji52) : Int) := of_decide_eq_true (by first | (with_reducible assumption) | assumption)
                          have q397 : (ji52) < (x9_1.length : Int) := of_decide_eq_true (by first | (with_reducible assumption) | assumption)
                          obtain ⟨ad397, e397, hx397_0⟩ := Kd.at_int (Kd.R_reads' HO_9.out).2.2 (ji52) p397 q397
                          cases e397
                          replace p397 := eq_true p397
                          replace q397 := eq_true q397
                          have p55 : 0 ≤ ((ji52) : Int) := of_decide_eq_true (by first | (with_reducible assumption) | assumption)
                          have q55 : ((ji52) : Int) < ((x9_1.length : Int) : Int) := of_decide_eq_true (by first | (with_reducible assumption) | assumption)
                          obtain ⟨go55, co55, eo55, gb55, gl55, cl55, HG55⟩ := Kd.R_form HO_9.out (by omega)
                          (first | cases eo55 | (injection eo55 with ea_ en_ ec_; (first | subst ea_ | (injection ea_ with ea_; subst ea_)); subst ec_; clear en_))
                          have GB55 := Aside0.mk gb55
                          have GG55 := Aside0.mk HG55
                          clear gb55 gl55 HG55
                          (first | simp only [add_plain] at hx397_0 | skip)
                          obtain ⟨hx55_0, hf55_0⟩ := Kd.R_celln 0 HO_9.out ((ji52) : Int) p55 q55
                          replace p55 := eq_true p55
                          replace q55 := eq_true q55
                          have HP93 := Kd.R_putg HO_9.out ((ji52) : Int) (Go.bits .xor .u8 (rd x9_1 (ji52)) a3)
                          go_wp2_with (first | ((with_reducible refine gate_store (t := 5) (p := 120) rfl ?_); refine store_event (t := 5) (p := 120) (v := ?vo_w94) (w1 := (wc.setCell ⟨go55, ((ji52) : Int).toNat, none⟩ (.int .u8 (Go.bits .xor .u8 (rd x9_1 (ji52)) a3)))) ?hg ?ho ?hn ?hr ?_; (case ho => rfl); (case hg => rfl); (case hn => rfl); (case hr => first | (go_simp; done) | (go_simp; rfl)); intro w94 hw; have hg : wc.grownBy w94 (some go55) := (by rw [hw]; exact HP93.2); have hp_ : Kd.R (Kd.int .u8) 5 w94 w.heap.size (fun _ => True) (.slice (some ⟨go55, 0, none⟩) x9_1.length co23) y398 := (by rw [hw, Ny398.out]; exact HP93.1); clear HP93; have n0_ := Aside0.mk (hp_); have n1_ := Aside0.mk (Kd.R_over' (v := (.slice (some ⟨go55, 0, none⟩) x9_1.length co23)) (by (with_reducible repeat (first | apply Kd.R_alloc | apply Kd.R_drewN | apply Kd.R_drew)); exact HO_10.out) (Kd.R_typed HO_9.out) (by decide) hg); have n2_ := Aside0.mk ((by rw [hw]; exact below_set (HB.out) GB55.out : Below w.heap.size w w94)); clear HO_9; clear HO_10; clear HB; have HO_9 := n0_; have HO_10 := n1_; have HB := n2_; clear n0_ n1_ n2_; clear hg hw hp_; have p399 : 0 ≤ (a1 : Int) := of_decide_eq_true (by first | (with_reducible assumption) | assumption); have q399 : a1 < (x10_1.length : Int) := of_decide_eq_true (by first | (with_reducible assumption) | assumption); obtain ⟨ad399, e399, hx399_0⟩ := Kd.at_int (Kd.R_reads' HO_10.out).2.2 a1 p399 q399; obtain rfl : ad396 = ad399 := (by injection e399); replace p399 := eq_true p399; replace q399 := eq_true q399; have hlx95 := (Kd.R_reads' HO_9.out).1; have q95 : ((rd x10_1 a1) : Int) ≤ ((x9_1.length : Int) : Int) := of_decide_eq_true (by first | (with_reducible assumption) | assumption); obtain ⟨i095, hi095, _, hsz95, _⟩ := info_parts info5; have hroom95 : x9_1.length ≤ co23 := (Kd.R_reads' HO_9.out).2.1; have hroomc95 : y398.length ≤ co23 := (by rw [← hlx95]; exact hroom95); have hC95 : Kd.C (Kd.int .u8) _ (some ⟨go55, 0, none⟩) y398.length y398 := (Kd.R_reads' HO_9.out).2.2; have q095 : (0 : Int) ≤ ((rd x10_1 a1) : Int) := of_decide_eq_true (by first | (with_reducible assumption) | assumption); have hcut95 := cut_from (P := Try.prog) 23 5 .i64 Try.underlying23 hi095 1 hsz95 (some ⟨go55, 0, none⟩) x9_1.length co23 (rd x10_1 a1) q095 q95; have hr95 := Kd.C_drop (m := ((rd x10_1 a1) : Int).toNat) (c := co23) hC95 (by omega) hroomc95; obtain ⟨A95, hA95⟩ : ∃ A1, A1 = (if co23 = ((rd x10_1 a1) : Int).toNat then (some ⟨go55, 0, none⟩) else ((some ⟨go55, 0, none⟩) : Option Addr).map (·.add (((rd x10_1 a1) : Int).toNat * 1))) := ⟨_, rfl⟩; obtain ⟨c95, hc95⟩ : ∃ c1, c1 = co23 - ((rd x10_1 a1) : Int).toNat := ⟨_, rfl⟩; have hy95 : y400.length = x9_1.length - ((rd x10_1 a1) : Int).toNat := (by rw [Ny400.out, List.length_drop] <;> omega); rw [show (y398).drop ((rd x10_1 a1) : Int).toNat = y400 from Ny400.out.symm] at hr95; replace hr95 : Kd.C (Kd.int .u8) _ A95 y400.length y400 := (by rw [hA95]; exact hr95); rw [← hy95, ← hA95, ← hc95] at hcut95; have HR403 := Aside0.mk hr95; have HC403 := Aside0.mk (show y400.length ≤ c95 from by rw [hy95, hc95]; exact Nat.sub_le_sub_right hroom95 _); clear hr95 hC95 hroom95 hi095 hsz95 hc95 hroomc95; have KY95 := Aside0.mk hy95; have KA95 := Aside0.mk hA95; clear hy95 hA95; have KE95 := Aside0.mk hlx95; have KL95 := Aside0.mk (show ((rd x10_1 a1) : Int).toNat ≤ y398.length from by omega); clear hlx95; replace q95 := eq_true q95) | ((with_reducible refine gate_callee (f := 19) rfl ?_); refine goesL_ (some 128) rfl rfl Try.func19 (by kernel_rfl) rfl #[.slice A95 y400.length c95] rfl (by (try simp only [List.map_toArray, List.map_cons, List.map_nil]); first | done | rfl | (simp only [List.length_drop, List.length_take]; rfl)) ?_; (with_reducible refine (crc_Open.calls kj40 _ _ y400 t404 t405 t406 _ ?side1 ?side2 A58.out).mono ?_); (case side1 => repeat (first | exact (by repeat (first | (with_reducible exact HR403.out) | (with_reducible refine Kd.C_alloc ?_ _) | (with_reducible refine Kd.C_drewN ?_ _) | (with_reducible refine Kd.C_drew ?_) | exact HR403.out)) | (with_reducible refine Kd.C_alloc ?_ _) | (with_reducible refine Kd.C_drewN ?_ _) | (with_reducible refine Kd.C_drew ?_))); (case side2 => exact HC403.out); rintro e w96 ⟨v407, rfl, ho0, hb⟩; refine ⟨_, rfl, ?_⟩; have n0_ := Aside0.mk (Kd.R_elder' (by (with_reducible repeat (first | apply Kd.R_alloc | apply Kd.R_drewN | apply Kd.R_drew)); exact HO_9.out) (Kd.R_base ho0) hb); have n1_ := Aside0.mk (Kd.R_below (by (with_reducible repeat (first | apply Kd.R_alloc | apply Kd.R_drewN | apply Kd.R_drew)); exact HO_10.out) hb); have n2_ := Aside0.mk (Kd.R_lower (Kd.R_new' ho0 (Kd.R_lt (by (with_reducible repeat (first | apply Kd.R_alloc | apply Kd.R_drewN | apply Kd.R_drew)); exact HO_9.out))) (below_size (by repeat (first | (with_reducible first | exact HB.out | apply below_alloc | apply pw_below_drewN | apply below_drew1) | exact HB.out)))); have n3_ := Aside0.mk (Kd.C_below (by repeat (first | (with_reducible exact HR403.out) | (with_reducible refine Kd.C_alloc ?_ _) | (with_reducible refine Kd.C_drewN ?_ _) | (with_reducible refine Kd.C_drew ?_) | exact HR403.out)) hb); have n4_ := Aside0.mk (below_step (by repeat (first | (with_reducible first | exact HB.out | apply below_alloc | apply pw_below_drewN | apply below_drew1) | exact HB.out)) hb); clear HO_9; clear HO_10; clear HR403; clear HB; have HO_9 := n0_; have HO_10 := n1_; have HO408 := n2_; have HR403 := n3_; have HB := n4_; clear n0_ n1_ n2_ n3_ n4_; (try clear hb); (try clear hb2); (try clear hk); (try clear hi); (try clear ho0)) | ((with_reducible refine gate_callee (f := 21) rfl ?_); refine goesL_ (some 134) rfl rfl Try.func21 (by kernel_rfl) rfl #[.slice (some ⟨go55, 0, none⟩) y398.length co23] rfl (by (try simp only [List.map_toArray, List.map_cons, List.map_nil]); first | done | (rw [show y398.length = x9_1.length from (Kd.R_reads' HO_9.out).1.symm] <;> rfl) | rfl | (simp only [List.length_drop, List.length_take]; rfl)) ?_; (with_reducible refine (crc_All.calls kj40 _ _ y398 t409 t410 _ ?side1 ?side2 A59.out).mono ?_); (case side1 => repeat (first | exact (Kd.R_reads' HO_9.out).2.2 | (with_reducible refine Kd.C_alloc ?_ _) | (with_reducible refine Kd.C_drewN ?_ _) | (with_reducible refine Kd.C_drew ?_))); (case side2 => rw [show y398.length = x9_1.length from (Kd.R_reads' HO_9.out).1.symm]; exact (Kd.R_reads' HO_9.out).2.1); rintro e w97 ⟨v411, rfl, ho0, hb⟩; refine ⟨_, rfl, ?_⟩; have n0_ := Aside0.mk (Kd.R_below (by (with_reducible repeat (first | apply Kd.R_alloc | apply Kd.R_drewN | apply Kd.R_drew)); exact HO_9.out) hb); have n1_ := Aside0.mk (Kd.R_below (by (with_reducible repeat (first | apply Kd.R_alloc | apply Kd.R_drewN | apply Kd.R_drew)); exact HO_10.out) hb); have n2_ := Aside0.mk (Kd.R_below (by (with_reducible repeat (first | apply Kd.R_alloc | apply Kd.R_drewN | apply Kd.R_drew)); exact HO408.out) hb); have n3_ := Aside0.mk (Kd.S_lower (Kd.S_new' (Kd.S_new' ho0 (Kd.R_lt (by (with_reducible repeat (first | apply Kd.R_alloc | apply Kd.R_drewN | apply Kd.R_drew)); exact HO_9.out))) (Kd.R_lt (by (with_reducible repeat (first | apply Kd.R_alloc | apply Kd.R_drewN | apply Kd.R_drew)); exact HO408.out))) (below_size (by repeat (first | (with_reducible first | exact HB.out | apply below_alloc | apply pw_below_drewN | apply below_drew1) | exact HB.out)))); have n4_ := Aside0.mk (Kd.C_below (by repeat (first | (with_reducible exact HR403.out) | (with_reducible refine Kd.C_alloc ?_ _) | (with_reducible refine Kd.C_drewN ?_ _) | (with_reducible refine Kd.C_drew ?_) | exact HR403.out)) hb); have n5_ := Aside0.mk (below_step (by repeat (first | (with_reducible first | exact HB.out | apply below_alloc | apply pw_below_drewN | apply below_drew1) | exact HB.out)) hb); clear HO_9; clear HO_10; clear HO408; clear HR403; clear HB; have HO_9 := n0_; have HO_10 := n1_; have HO408 := n2_; have HO412 := n3_; have HR403 := n4_; have HB := n5_; clear n0_ n1_ n2_ n3_ n4_ n5_; (try clear hb); (try clear hb2); (try clear hk); (try clear hi); (try clear ho0)))
                          go_ret
                          exact ⟨by first | rfl | (simp [errW_none, errW_some] <;> rfl) | (simp only [← hji52]; first | rfl | (simp [errW_none, errW_some] <;> rfl)) | (simp [*, errW_none, errW_some] <;> rfl), by repeat (first | (with_reducible first | exact HB.out | apply below_alloc | apply pw_below_drewN | apply below_drew1) | exact HB.out)⟩
                        ·
                         rw [if_neg c57] at H
                         exact absurd H (by simp)
                       ·
                        rw [if_neg c56] at H
                        exact absurd H (by simp)
                      ·
                       rw [if_neg c54] at H
                       exact absurd H (by simp)
                     ·
                      rw [if_neg c53] at H
                      exact absurd H (by simp)
                   ·
                    rw [if_neg c49] at H
                    exact absurd H (by simp)
                  ·
                   rw [if_neg c48] at H
                   exact absurd H (by simp)
            ·
             rw [if_neg c38] at H
             exact absurd H (by simp)
           ·
            rw [if_neg c37] at H
            exact absurd H (by simp)

end Go.Proofs.Ytobehfghepbhbaa.X
