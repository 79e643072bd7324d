-- squeezed
-- written by xprint.py, an own overlay over the kit's print; not trusted: Lean checks it
import Derived.Test.YtmfcgmdecindnaaX0
import Derived.Test.YtmfcgmdecindnaaX2
import Derived.Test.YtmfcgmdecindnaaX18
import Derived.Test.YtmfcgmdecindnaaX21
namespace Go.Proofs.Ytmfcgmdecindnaa.X
open Go.RowKit Go.Proofs.YtmfcgmdecindnaaW.PrintWords Go.Proofs.YtmfcgmdecindnaaW.PrintLast Go.Proofs.YtmfcgmdecindnaaW.PrintMore
attribute [local go_sem] max2_int min2_int max_two min_two max_three min_three max_four min_four   -- for this text's walks alone
set_option linter.unusedVariables false
set_option linter.unusedSimpArgs false

/-! ### dancestudiolaw42_StageClear: function 5 -/
mutual
def dancestudiolaw42_StageClear.j0 : Nat → Int → Int → Int → Int → Int → Bool → Int → Int → List (S41) → Option (Bool)
 | 0, _, _, _, _, _, _, _, _, _ => none
 | k + 1, x8, x10, x12, x13, x14, x120, x451000, x451001, x451002 => if x120 = true then (none) else (if x8 < (-1) then (none) else (if x8 ≥ (x451002.length : Int) then (none) else (dancestudiolaw42_StageClear.l0 k x8 x10 x12 x13 x14 0 x451000 x451001 x451002)))
def dancestudiolaw42_StageClear.l0 : Nat → Int → Int → Int → Int → Int → Int → Int → Int → List (S41) → Option (Bool)
 | 0, _, _, _, _, _, _, _, _, _ => none
 | k + 1, x8, x10, x12, x13, x14, x15, x451000, x451001, x451002 => if x15 < (x451002.length : Int) then (if x8 < 0 then (dancestudiolaw42_StageClear.j2 k x8 x10 x12 x13 x14 x15 true x451000 x451001 x451002) else (dancestudiolaw42_StageClear.j2 k x8 x10 x12 x13 x14 x15 (decide (x15 < x8)) x451000 x451001 x451002)) else (dancestudiolaw42_StageClear.j2 k x8 x10 x12 x13 x14 x15 false x451000 x451001 x451002)
def dancestudiolaw42_StageClear.j2 : Nat → Int → Int → Int → Int → Int → Int → Bool → Int → Int → List (S41) → Option (Bool)
 | 0, _, _, _, _, _, _, _, _, _, _ => none
 | k + 1, x8, x10, x12, x13, x14, x15, x143, x451000, x451001, x451002 => if x143 = true then (if 0 ≤ x15 then (if x15 < (x451002.length : Int) then (if (wrap64 ((wrap64 ((wrap64 (x12 - (wrap64 (((rd_T41 x451002 x15).f0.f0) * x10)))) * (wrap64 (x12 - (wrap64 (((rd_T41 x451002 x15).f0.f0) * x10)))))) + (wrap64 ((wrap64 (x13 - (wrap64 (((rd_T41 x451002 x15).f0.f1) * x10)))) * (wrap64 (x13 - (wrap64 (((rd_T41 x451002 x15).f0.f1) * x10)))))))) < (wrap64 ((wrap64 (x14 + (wrap64 (((rd_T41 x451002 x15).f1) * x10)))) * (wrap64 (x14 + (wrap64 (((rd_T41 x451002 x15).f1) * x10)))))) then (none) else (dancestudiolaw42_StageClear.l0 k x8 x10 x12 x13 x14 (wrap64 (x15 + 1)) x451000 x451001 x451002)) else (none)) else (none)) else ((dancestudiolaw42_awake.f k).bind fun t477 => (some t477))
end
def dancestudiolaw42_StageClear.f (k : Nat) (a0_0 a0_1 : Int) (l0_2 : List (S41)) (a1_0 a1_1 a1_2 a1_3 a1_4 a2_0 a2_1 : Int) : Option (Bool) := (dancestudiolaw42_great.f a0_0 a0_1 l0_2).bind fun t453 => (if t453 = true then ((dancestudiolaw42_awake.f k).bind fun t454 => (some t454)) else ((stage_Clear.f k a0_0 a0_1 l0_2 a1_0 a1_1 a1_2 a1_3 a1_4).bind fun bt462 => (if bt462.2.2 = 0 then (if (wrap64 ((wrap64 (1 + (Int.tmod (wrap64 (a2_0)) 100))) + 1)) = 0 then (none) else (if bt462.1 = true then (if (wrap64 (2 * (wrap64 ((wrap64 ((wrap64 (a1_0 * (wrap64 ((wrap64 (1 + (Int.tmod (wrap64 (a2_0)) 100))) - (Int.tmod (wrap64 (a2_1)) (wrap64 ((wrap64 (1 + (Int.tmod (wrap64 (a2_0)) 100))) + 1))))))) + (wrap64 (a1_2 * (Int.tmod (wrap64 (a2_1)) (wrap64 ((wrap64 (1 + (Int.tmod (wrap64 (a2_0)) 100))) + 1))))))) - (wrap64 (a1_4 * (wrap64 (1 + (Int.tmod (wrap64 (a2_0)) 100))))))))) < (wrap64 ((wrap64 (-a0_0)) * (wrap64 (1 + (Int.tmod (wrap64 (a2_0)) 100))))) then (none) else (if (wrap64 (2 * (wrap64 ((wrap64 ((wrap64 (a1_0 * (wrap64 ((wrap64 (1 + (Int.tmod (wrap64 (a2_0)) 100))) - (Int.tmod (wrap64 (a2_1)) (wrap64 ((wrap64 (1 + (Int.tmod (wrap64 (a2_0)) 100))) + 1))))))) + (wrap64 (a1_2 * (Int.tmod (wrap64 (a2_1)) (wrap64 ((wrap64 (1 + (Int.tmod (wrap64 (a2_0)) 100))) + 1))))))) + (wrap64 (a1_4 * (wrap64 (1 + (Int.tmod (wrap64 (a2_0)) 100))))))))) > (wrap64 (a0_0 * (wrap64 (1 + (Int.tmod (wrap64 (a2_0)) 100))))) then (none) else (if (wrap64 ((wrap64 (a1_1 * (wrap64 ((wrap64 (1 + (Int.tmod (wrap64 (a2_0)) 100))) - (Int.tmod (wrap64 (a2_1)) (wrap64 ((wrap64 (1 + (Int.tmod (wrap64 (a2_0)) 100))) + 1))))))) + (wrap64 (a1_3 * (Int.tmod (wrap64 (a2_1)) (wrap64 ((wrap64 (1 + (Int.tmod (wrap64 (a2_0)) 100))) + 1))))))) < (wrap64 (a1_4 * (wrap64 (1 + (Int.tmod (wrap64 (a2_0)) 100))))) then (none) else (dancestudiolaw42_StageClear.j0 k bt462.2.1 (wrap64 (1 + (Int.tmod (wrap64 (a2_0)) 100))) (wrap64 ((wrap64 (a1_0 * (wrap64 ((wrap64 (1 + (Int.tmod (wrap64 (a2_0)) 100))) - (Int.tmod (wrap64 (a2_1)) (wrap64 ((wrap64 (1 + (Int.tmod (wrap64 (a2_0)) 100))) + 1))))))) + (wrap64 (a1_2 * (Int.tmod (wrap64 (a2_1)) (wrap64 ((wrap64 (1 + (Int.tmod (wrap64 (a2_0)) 100))) + 1))))))) (wrap64 ((wrap64 (a1_1 * (wrap64 ((wrap64 (1 + (Int.tmod (wrap64 (a2_0)) 100))) - (Int.tmod (wrap64 (a2_1)) (wrap64 ((wrap64 (1 + (Int.tmod (wrap64 (a2_0)) 100))) + 1))))))) + (wrap64 (a1_3 * (Int.tmod (wrap64 (a2_1)) (wrap64 ((wrap64 (1 + (Int.tmod (wrap64 (a2_0)) 100))) + 1))))))) (wrap64 (a1_4 * (wrap64 (1 + (Int.tmod (wrap64 (a2_0)) 100))))) (decide ((wrap64 ((wrap64 ((wrap64 (a1_1 * (wrap64 ((wrap64 (1 + (Int.tmod (wrap64 (a2_0)) 100))) - (Int.tmod (wrap64 (a2_1)) (wrap64 ((wrap64 (1 + (Int.tmod (wrap64 (a2_0)) 100))) + 1))))))) + (wrap64 (a1_3 * (Int.tmod (wrap64 (a2_1)) (wrap64 ((wrap64 (1 + (Int.tmod (wrap64 (a2_0)) 100))) + 1))))))) + (wrap64 (a1_4 * (wrap64 (1 + (Int.tmod (wrap64 (a2_0)) 100))))))) > (wrap64 (a0_1 * (wrap64 (1 + (Int.tmod (wrap64 (a2_0)) 100))))))) a0_0 a0_1 l0_2)))) else (dancestudiolaw42_StageClear.j0 k bt462.2.1 (wrap64 (1 + (Int.tmod (wrap64 (a2_0)) 100))) (wrap64 ((wrap64 (a1_0 * (wrap64 ((wrap64 (1 + (Int.tmod (wrap64 (a2_0)) 100))) - (Int.tmod (wrap64 (a2_1)) (wrap64 ((wrap64 (1 + (Int.tmod (wrap64 (a2_0)) 100))) + 1))))))) + (wrap64 (a1_2 * (Int.tmod (wrap64 (a2_1)) (wrap64 ((wrap64 (1 + (Int.tmod (wrap64 (a2_0)) 100))) + 1))))))) (wrap64 ((wrap64 (a1_1 * (wrap64 ((wrap64 (1 + (Int.tmod (wrap64 (a2_0)) 100))) - (Int.tmod (wrap64 (a2_1)) (wrap64 ((wrap64 (1 + (Int.tmod (wrap64 (a2_0)) 100))) + 1))))))) + (wrap64 (a1_3 * (Int.tmod (wrap64 (a2_1)) (wrap64 ((wrap64 (1 + (Int.tmod (wrap64 (a2_0)) 100))) + 1))))))) (wrap64 (a1_4 * (wrap64 (1 + (Int.tmod (wrap64 (a2_0)) 100))))) false a0_0 a0_1 l0_2))) else (if bt462.1 = true then (none) else (if bt462.2.1 = 0 then ((dancestudiolaw42_awake.f k).bind fun t465 => (some t465)) else (none))))))
theorem dancestudiolaw42_StageClear.mono_l : ∀ k, (∀ y0 y1 y2 y3 y4 y5 y6 y7 y8, LeO (dancestudiolaw42_StageClear.j0 k y0 y1 y2 y3 y4 y5 y6 y7 y8) (dancestudiolaw42_StageClear.j0 (k + 1) y0 y1 y2 y3 y4 y5 y6 y7 y8)) ∧ (∀ y0 y1 y2 y3 y4 y5 y6 y7 y8, LeO (dancestudiolaw42_StageClear.l0 k y0 y1 y2 y3 y4 y5 y6 y7 y8) (dancestudiolaw42_StageClear.l0 (k + 1) y0 y1 y2 y3 y4 y5 y6 y7 y8)) ∧ (∀ y0 y1 y2 y3 y4 y5 y6 y7 y8 y9, LeO (dancestudiolaw42_StageClear.j2 k y0 y1 y2 y3 y4 y5 y6 y7 y8 y9) (dancestudiolaw42_StageClear.j2 (k + 1) y0 y1 y2 y3 y4 y5 y6 y7 y8 y9))
 | 0 => ⟨fun _ _ _ _ _ _ _ _ _ r h => by simp [dancestudiolaw42_StageClear.j0] at h, fun _ _ _ _ _ _ _ _ _ r h => by simp [dancestudiolaw42_StageClear.l0] at h, fun _ _ _ _ _ _ _ _ _ _ r h => by simp [dancestudiolaw42_StageClear.j2] at h⟩
 | k + 1 => by
  obtain ⟨ih0, ih1, ih2⟩ := dancestudiolaw42_StageClear.mono_l k
  refine ⟨?_, ?_, ?_⟩
  ·
   intro y0 y1 y2 y3 y4 y5 y6 y7 y8
   unfold dancestudiolaw42_StageClear.j0
   repeat' first
   | (with_reducible exact ih0 _ _ _ _ _ _ _ _ _)
   | (with_reducible exact ih1 _ _ _ _ _ _ _ _ _)
   | (with_reducible exact ih2 _ _ _ _ _ _ _ _ _ _)
   | (with_reducible exact dancestudiolaw42_awake.mono _)
   | (with_reducible exact stage_Clear.mono _ _ _ _ _ _ _ _ _)
   | (with_reducible exact LeO.refl _)
   | (with_reducible exact LeO.none _)
   | (with_reducible refine LeO.ite ?_ ?_)
   | (with_reducible refine LeO.bind ?_ (fun _ => ?_))
   | exact ih0 _ _ _ _ _ _ _ _ _
   | exact ih1 _ _ _ _ _ _ _ _ _
   | exact ih2 _ _ _ _ _ _ _ _ _ _
   | exact dancestudiolaw42_awake.mono _
   | exact stage_Clear.mono _ _ _ _ _ _ _ _ _
   | exact LeO.none _
   | refine LeO.ite ?_ ?_
   | refine LeO.bind ?_ (fun _ => ?_)
  ·
   intro y0 y1 y2 y3 y4 y5 y6 y7 y8
   unfold dancestudiolaw42_StageClear.l0
   repeat' first
   | (with_reducible exact ih0 _ _ _ _ _ _ _ _ _)
   | (with_reducible exact ih1 _ _ _ _ _ _ _ _ _)
   | (with_reducible exact ih2 _ _ _ _ _ _ _ _ _ _)
   | (with_reducible exact dancestudiolaw42_awake.mono _)
   | (with_reducible exact stage_Clear.mono _ _ _ _ _ _ _ _ _)
   | (with_reducible exact LeO.refl _)
   | (with_reducible exact LeO.none _)
   | (with_reducible refine LeO.ite ?_ ?_)
   | (with_reducible refine LeO.bind ?_ (fun _ => ?_))
   | exact ih0 _ _ _ _ _ _ _ _ _
   | exact ih1 _ _ _ _ _ _ _ _ _
   | exact ih2 _ _ _ _ _ _ _ _ _ _
   | exact dancestudiolaw42_awake.mono _
   | exact stage_Clear.mono _ _ _ _ _ _ _ _ _
   | exact LeO.none _
   | refine LeO.ite ?_ ?_
   | refine LeO.bind ?_ (fun _ => ?_)
  ·
   intro y0 y1 y2 y3 y4 y5 y6 y7 y8 y9
   unfold dancestudiolaw42_StageClear.j2
   repeat' first
   | (with_reducible exact ih0 _ _ _ _ _ _ _ _ _)
   | (with_reducible exact ih1 _ _ _ _ _ _ _ _ _)
   | (with_reducible exact ih2 _ _ _ _ _ _ _ _ _ _)
   | (with_reducible exact dancestudiolaw42_awake.mono _)
   | (with_reducible exact stage_Clear.mono _ _ _ _ _ _ _ _ _)
   | (with_reducible exact LeO.refl _)
   | (with_reducible exact LeO.none _)
   | (with_reducible refine LeO.ite ?_ ?_)
   | (with_reducible refine LeO.bind ?_ (fun _ => ?_))
   | exact ih0 _ _ _ _ _ _ _ _ _
   | exact ih1 _ _ _ _ _ _ _ _ _
   | exact ih2 _ _ _ _ _ _ _ _ _ _
   | exact dancestudiolaw42_awake.mono _
   | exact stage_Clear.mono _ _ _ _ _ _ _ _ _
   | exact LeO.none _
   | refine LeO.ite ?_ ?_
   | refine LeO.bind ?_ (fun _ => ?_)
theorem dancestudiolaw42_StageClear.mono : ∀ a0 a1 a2 a3 a4 a5 a6 a7 a8 a9 k, LeO (dancestudiolaw42_StageClear.f k a0 a1 a2 a3 a4 a5 a6 a7 a8 a9) (dancestudiolaw42_StageClear.f (k + 1) a0 a1 a2 a3 a4 a5 a6 a7 a8 a9) := by
 intro a0 a1 a2 a3 a4 a5 a6 a7 a8 a9 k
 obtain ⟨ih0, ih1, ih2⟩ := dancestudiolaw42_StageClear.mono_l k
 unfold dancestudiolaw42_StageClear.f
 repeat' first
   | (with_reducible exact ih0 _ _ _ _ _ _ _ _ _)
   | (with_reducible exact ih1 _ _ _ _ _ _ _ _ _)
   | (with_reducible exact ih2 _ _ _ _ _ _ _ _ _ _)
   | (with_reducible exact dancestudiolaw42_awake.mono _)
   | (with_reducible exact stage_Clear.mono _ _ _ _ _ _ _ _ _)
   | (with_reducible exact LeO.refl _)
   | (with_reducible exact LeO.none _)
   | (with_reducible refine LeO.ite ?_ ?_)
   | (with_reducible refine LeO.bind ?_ (fun _ => ?_))
   | exact ih0 _ _ _ _ _ _ _ _ _
   | exact ih1 _ _ _ _ _ _ _ _ _
   | exact ih2 _ _ _ _ _ _ _ _ _ _
   | exact dancestudiolaw42_awake.mono _
   | exact stage_Clear.mono _ _ _ _ _ _ _ _ _
   | exact LeO.none _
   | refine LeO.ite ?_ ?_
   | refine LeO.bind ?_ (fun _ => ?_)
set_option maxHeartbeats 8000000 in
set_option maxRecDepth 100000 in
theorem dancestudiolaw42_StageClear.calls (k : Nat) (a0_0 a0_1 : Int) (A0_2 : Option Addr) (c0_2 : Nat) (l0_2 : List (S41)) (a1_0 a1_1 a1_2 a1_3 a1_4 a2_0 a2_1 : Int) (r : Bool) (w : World) (hr0_2 : Kd.C k41 w A0_2 l0_2.length l0_2) (hc0_2 : l0_2.length ≤ c0_2) (h : dancestudiolaw42_StageClear.f k a0_0 a0_1 l0_2 a1_0 a1_1 a1_2 a1_3 a1_4 a2_0 a2_1 = some r) :
  Calls Try.prog 5 #[.agg #[.int .i64 a0_0, .int .i64 a0_1, .slice A0_2 l0_2.length c0_2], .agg #[.int .i64 a1_0, .int .i64 a1_1, .int .i64 a1_2, .int .i64 a1_3, .int .i64 a1_4], .agg #[.int .u8 a2_0, .int .u8 a2_1]] w fun e w' => e = .returned (.bool r) ∧ Below w.heap.size w w' := by
 have hu24 := Try.underlying24
 have hu35 := Try.underlying35
 have hu39 := Try.underlying39
 have hu41 := Try.underlying41
 have HR0_2 := Aside0.mk hr0_2
 have HC0_2 := Aside0.mk hc0_2
 clear hr0_2 hc0_2
 have HB := Aside0.mk (Below.refl w.heap.size w)
 have H : ((dancestudiolaw42_great.f a0_0 a0_1 l0_2).bind fun t453 => (if t453 = true then ((dancestudiolaw42_awake.f k).bind fun t454 => (some t454)) else ((stage_Clear.f k a0_0 a0_1 l0_2 a1_0 a1_1 a1_2 a1_3 a1_4).bind fun bt462 => (if bt462.2.2 = 0 then (if (wrap64 ((wrap64 (1 + (Int.tmod (wrap64 (a2_0)) 100))) + 1)) = 0 then (none) else (if bt462.1 = true then (if (wrap64 (2 * (wrap64 ((wrap64 ((wrap64 (a1_0 * (wrap64 ((wrap64 (1 + (Int.tmod (wrap64 (a2_0)) 100))) - (Int.tmod (wrap64 (a2_1)) (wrap64 ((wrap64 (1 + (Int.tmod (wrap64 (a2_0)) 100))) + 1))))))) + (wrap64 (a1_2 * (Int.tmod (wrap64 (a2_1)) (wrap64 ((wrap64 (1 + (Int.tmod (wrap64 (a2_0)) 100))) + 1))))))) - (wrap64 (a1_4 * (wrap64 (1 + (Int.tmod (wrap64 (a2_0)) 100))))))))) < (wrap64 ((wrap64 (-a0_0)) * (wrap64 (1 + (Int.tmod (wrap64 (a2_0)) 100))))) then (none) else (if (wrap64 (2 * (wrap64 ((wrap64 ((wrap64 (a1_0 * (wrap64 ((wrap64 (1 + (Int.tmod (wrap64 (a2_0)) 100))) - (Int.tmod (wrap64 (a2_1)) (wrap64 ((wrap64 (1 + (Int.tmod (wrap64 (a2_0)) 100))) + 1))))))) + (wrap64 (a1_2 * (Int.tmod (wrap64 (a2_1)) (wrap64 ((wrap64 (1 + (Int.tmod (wrap64 (a2_0)) 100))) + 1))))))) + (wrap64 (a1_4 * (wrap64 (1 + (Int.tmod (wrap64 (a2_0)) 100))))))))) > (wrap64 (a0_0 * (wrap64 (1 + (Int.tmod (wrap64 (a2_0)) 100))))) then (none) else (if (wrap64 ((wrap64 (a1_1 * (wrap64 ((wrap64 (1 + (Int.tmod (wrap64 (a2_0)) 100))) - (Int.tmod (wrap64 (a2_1)) (wrap64 ((wrap64 (1 + (Int.tmod (wrap64 (a2_0)) 100))) + 1))))))) + (wrap64 (a1_3 * (Int.tmod (wrap64 (a2_1)) (wrap64 ((wrap64 (1 + (Int.tmod (wrap64 (a2_0)) 100))) + 1))))))) < (wrap64 (a1_4 * (wrap64 (1 + (Int.tmod (wrap64 (a2_0)) 100))))) then (none) else (dancestudiolaw42_StageClear.j0 k bt462.2.1 (wrap64 (1 + (Int.tmod (wrap64 (a2_0)) 100))) (wrap64 ((wrap64 (a1_0 * (wrap64 ((wrap64 (1 + (Int.tmod (wrap64 (a2_0)) 100))) - (Int.tmod (wrap64 (a2_1)) (wrap64 ((wrap64 (1 + (Int.tmod (wrap64 (a2_0)) 100))) + 1))))))) + (wrap64 (a1_2 * (Int.tmod (wrap64 (a2_1)) (wrap64 ((wrap64 (1 + (Int.tmod (wrap64 (a2_0)) 100))) + 1))))))) (wrap64 ((wrap64 (a1_1 * (wrap64 ((wrap64 (1 + (Int.tmod (wrap64 (a2_0)) 100))) - (Int.tmod (wrap64 (a2_1)) (wrap64 ((wrap64 (1 + (Int.tmod (wrap64 (a2_0)) 100))) + 1))))))) + (wrap64 (a1_3 * (Int.tmod (wrap64 (a2_1)) (wrap64 ((wrap64 (1 + (Int.tmod (wrap64 (a2_0)) 100))) + 1))))))) (wrap64 (a1_4 * (wrap64 (1 + (Int.tmod (wrap64 (a2_0)) 100))))) (decide ((wrap64 ((wrap64 ((wrap64 (a1_1 * (wrap64 ((wrap64 (1 + (Int.tmod (wrap64 (a2_0)) 100))) - (Int.tmod (wrap64 (a2_1)) (wrap64 ((wrap64 (1 + (Int.tmod (wrap64 (a2_0)) 100))) + 1))))))) + (wrap64 (a1_3 * (Int.tmod (wrap64 (a2_1)) (wrap64 ((wrap64 (1 + (Int.tmod (wrap64 (a2_0)) 100))) + 1))))))) + (wrap64 (a1_4 * (wrap64 (1 + (Int.tmod (wrap64 (a2_0)) 100))))))) > (wrap64 (a0_1 * (wrap64 (1 + (Int.tmod (wrap64 (a2_0)) 100))))))) a0_0 a0_1 l0_2)))) else (dancestudiolaw42_StageClear.j0 k bt462.2.1 (wrap64 (1 + (Int.tmod (wrap64 (a2_0)) 100))) (wrap64 ((wrap64 (a1_0 * (wrap64 ((wrap64 (1 + (Int.tmod (wrap64 (a2_0)) 100))) - (Int.tmod (wrap64 (a2_1)) (wrap64 ((wrap64 (1 + (Int.tmod (wrap64 (a2_0)) 100))) + 1))))))) + (wrap64 (a1_2 * (Int.tmod (wrap64 (a2_1)) (wrap64 ((wrap64 (1 + (Int.tmod (wrap64 (a2_0)) 100))) + 1))))))) (wrap64 ((wrap64 (a1_1 * (wrap64 ((wrap64 (1 + (Int.tmod (wrap64 (a2_0)) 100))) - (Int.tmod (wrap64 (a2_1)) (wrap64 ((wrap64 (1 + (Int.tmod (wrap64 (a2_0)) 100))) + 1))))))) + (wrap64 (a1_3 * (Int.tmod (wrap64 (a2_1)) (wrap64 ((wrap64 (1 + (Int.tmod (wrap64 (a2_0)) 100))) + 1))))))) (wrap64 (a1_4 * (wrap64 (1 + (Int.tmod (wrap64 (a2_0)) 100))))) false a0_0 a0_1 l0_2))) else (if bt462.1 = true then (none) else (if bt462.2.1 = 0 then ((dancestudiolaw42_awake.f k).bind fun t465 => (some t465)) else (none))))))) = some r := h
 clear h
 replace H := Option.bind_eq_some_iff.mp H
 obtain ⟨t453, A40, H⟩ := H
 replace H : (if t453 = true then ((dancestudiolaw42_awake.f k).bind fun t454 => (some t454)) else ((stage_Clear.f k a0_0 a0_1 l0_2 a1_0 a1_1 a1_2 a1_3 a1_4).bind fun bt462 => (if bt462.2.2 = 0 then (if (wrap64 ((wrap64 (1 + (Int.tmod (wrap64 (a2_0)) 100))) + 1)) = 0 then (none) else (if bt462.1 = true then (if (wrap64 (2 * (wrap64 ((wrap64 ((wrap64 (a1_0 * (wrap64 ((wrap64 (1 + (Int.tmod (wrap64 (a2_0)) 100))) - (Int.tmod (wrap64 (a2_1)) (wrap64 ((wrap64 (1 + (Int.tmod (wrap64 (a2_0)) 100))) + 1))))))) + (wrap64 (a1_2 * (Int.tmod (wrap64 (a2_1)) (wrap64 ((wrap64 (1 + (Int.tmod (wrap64 (a2_0)) 100))) + 1))))))) - (wrap64 (a1_4 * (wrap64 (1 + (Int.tmod (wrap64 (a2_0)) 100))))))))) < (wrap64 ((wrap64 (-a0_0)) * (wrap64 (1 + (Int.tmod (wrap64 (a2_0)) 100))))) then (none) else (if (wrap64 (2 * (wrap64 ((wrap64 ((wrap64 (a1_0 * (wrap64 ((wrap64 (1 + (Int.tmod (wrap64 (a2_0)) 100))) - (Int.tmod (wrap64 (a2_1)) (wrap64 ((wrap64 (1 + (Int.tmod (wrap64 (a2_0)) 100))) + 1))))))) + (wrap64 (a1_2 * (Int.tmod (wrap64 (a2_1)) (wrap64 ((wrap64 (1 + (Int.tmod (wrap64 (a2_0)) 100))) + 1))))))) + (wrap64 (a1_4 * (wrap64 (1 + (Int.tmod (wrap64 (a2_0)) 100))))))))) > (wrap64 (a0_0 * (wrap64 (1 + (Int.tmod (wrap64 (a2_0)) 100))))) then (none) else (if (wrap64 ((wrap64 (a1_1 * (wrap64 ((wrap64 (1 + (Int.tmod (wrap64 (a2_0)) 100))) - (Int.tmod (wrap64 (a2_1)) (wrap64 ((wrap64 (1 + (Int.tmod (wrap64 (a2_0)) 100))) + 1))))))) + (wrap64 (a1_3 * (Int.tmod (wrap64 (a2_1)) (wrap64 ((wrap64 (1 + (Int.tmod (wrap64 (a2_0)) 100))) + 1))))))) < (wrap64 (a1_4 * (wrap64 (1 + (Int.tmod (wrap64 (a2_0)) 100))))) then (none) else (dancestudiolaw42_StageClear.j0 k bt462.2.1 (wrap64 (1 + (Int.tmod (wrap64 (a2_0)) 100))) (wrap64 ((wrap64 (a1_0 * (wrap64 ((wrap64 (1 + (Int.tmod (wrap64 (a2_0)) 100))) - (Int.tmod (wrap64 (a2_1)) (wrap64 ((wrap64 (1 + (Int.tmod (wrap64 (a2_0)) 100))) + 1))))))) + (wrap64 (a1_2 * (Int.tmod (wrap64 (a2_1)) (wrap64 ((wrap64 (1 + (Int.tmod (wrap64 (a2_0)) 100))) + 1))))))) (wrap64 ((wrap64 (a1_1 * (wrap64 ((wrap64 (1 + (Int.tmod (wrap64 (a2_0)) 100))) - (Int.tmod (wrap64 (a2_1)) (wrap64 ((wrap64 (1 + (Int.tmod (wrap64 (a2_0)) 100))) + 1))))))) + (wrap64 (a1_3 * (Int.tmod (wrap64 (a2_1)) (wrap64 ((wrap64 (1 + (Int.tmod (wrap64 (a2_0)) 100))) + 1))))))) (wrap64 (a1_4 * (wrap64 (1 + (Int.tmod (wrap64 (a2_0)) 100))))) (decide ((wrap64 ((wrap64 ((wrap64 (a1_1 * (wrap64 ((wrap64 (1 + (Int.tmod (wrap64 (a2_0)) 100))) - (Int.tmod (wrap64 (a2_1)) (wrap64 ((wrap64 (1 + (Int.tmod (wrap64 (a2_0)) 100))) + 1))))))) + (wrap64 (a1_3 * (Int.tmod (wrap64 (a2_1)) (wrap64 ((wrap64 (1 + (Int.tmod (wrap64 (a2_0)) 100))) + 1))))))) + (wrap64 (a1_4 * (wrap64 (1 + (Int.tmod (wrap64 (a2_0)) 100))))))) > (wrap64 (a0_1 * (wrap64 (1 + (Int.tmod (wrap64 (a2_0)) 100))))))) a0_0 a0_1 l0_2)))) else (dancestudiolaw42_StageClear.j0 k bt462.2.1 (wrap64 (1 + (Int.tmod (wrap64 (a2_0)) 100))) (wrap64 ((wrap64 (a1_0 * (wrap64 ((wrap64 (1 + (Int.tmod (wrap64 (a2_0)) 100))) - (Int.tmod (wrap64 (a2_1)) (wrap64 ((wrap64 (1 + (Int.tmod (wrap64 (a2_0)) 100))) + 1))))))) + (wrap64 (a1_2 * (Int.tmod (wrap64 (a2_1)) (wrap64 ((wrap64 (1 + (Int.tmod (wrap64 (a2_0)) 100))) + 1))))))) (wrap64 ((wrap64 (a1_1 * (wrap64 ((wrap64 (1 + (Int.tmod (wrap64 (a2_0)) 100))) - (Int.tmod (wrap64 (a2_1)) (wrap64 ((wrap64 (1 + (Int.tmod (wrap64 (a2_0)) 100))) + 1))))))) + (wrap64 (a1_3 * (Int.tmod (wrap64 (a2_1)) (wrap64 ((wrap64 (1 + (Int.tmod (wrap64 (a2_0)) 100))) + 1))))))) (wrap64 (a1_4 * (wrap64 (1 + (Int.tmod (wrap64 (a2_0)) 100))))) false a0_0 a0_1 l0_2))) else (if bt462.1 = true then (none) else (if bt462.2.1 = 0 then ((dancestudiolaw42_awake.f k).bind fun t465 => (some t465)) else (none)))))) = some r := H
 have A4 := Aside0.mk A40
 clear A40
 by_cases c5 : t453 = true
 ·
  subst c5
  have H1 : ((dancestudiolaw42_awake.f k).bind fun t454 => (some t454)) = some r := by rw [if_pos rfl] at H; exact H
  clear H
  have H := H1
  clear H1
  replace H := Option.bind_eq_some_iff.mp H
  obtain ⟨t454, A60, H⟩ := H
  replace H : (some t454) = some r := H
  have A6 := Aside0.mk A60
  clear A60
  obtain rfl := Option.some.inj H
  go_enter Try.func5, Try.ntmps5
  go_wp2_with (first | ((with_reducible refine gate_dst (N := 3) rfl ?_); refine box_event ?hg (N := 3) ?hd (cs := #[.int .i64 a0_0, .int .i64 a0_1, .slice A0_2 l0_2.length c0_2]) (t := 24) ?hr ?_; (case hd => rfl); (case hg => rfl); (case hr => first | (go_simp; done) | (go_simp; rfl)); intro gb450 hg w7 hbox hb; have BK450 := Aside0.mk (hbox); have GW450 := Aside0.mk ((by rw [hg]; exact (below_size (by repeat with_reducible first | exact HB.out | apply bA | apply bN | apply bD)) : w.heap.size ≤ gb450)); have GE450 := GW450; replace HB := Aside0.mk (below_step (by repeat with_reducible first | exact HB.out | apply bA | apply bN | apply bD) hb); clear hb hbox hg) | ((with_reducible refine gate_dst (N := 4) rfl ?_); refine box_event ?hg (N := 4) ?hd (cs := #[.int .i64 a1_0, .int .i64 a1_1, .int .i64 a1_2, .int .i64 a1_3, .int .i64 a1_4]) (t := 35) ?hr ?_; (case hd => rfl); (case hg => rfl); (case hr => first | (go_simp; done) | (go_simp; rfl)); intro gb451 hg w8 hbox hb; have BK451 := Aside0.mk (hbox); have GW451 := Aside0.mk ((by rw [hg]; exact (below_size (by repeat with_reducible first | exact HB.out | apply bA | apply bN | apply bD | refine bS ?_ GE450.out)) : w.heap.size ≤ gb451)); have GE451 := GW451; replace HB := Aside0.mk (below_step (by repeat with_reducible first | exact HB.out | apply bA | apply bN | apply bD | refine bS ?_ GE450.out) hb); have NB450_451 := Aside0.mk ((by rw [hg]; exact Nat.ne_of_lt (blk_lt (by with_reducible repeat first | exact BK450.out | apply kN | apply kD | apply kA)) : gb450 ≠ gb451)); have NB451_450 := Aside0.mk ((by rw [hg]; exact Nat.ne_of_gt (blk_lt (by with_reducible repeat first | exact BK450.out | apply kN | apply kD | apply kA)) : gb451 ≠ gb450)); replace BK450 := Aside0.mk (blk_below (o := .cells #[.int .i64 a0_0, .int .i64 a0_1, .slice A0_2 l0_2.length c0_2] 24 (0, 0)) (by with_reducible repeat first | exact BK450.out | apply kN | apply kD | apply kA) hb); clear hb hbox hg) | ((with_reducible refine gate_dst (N := 5) rfl ?_); refine box_event ?hg (N := 5) ?hd (cs := #[.int .u8 a2_0, .int .u8 a2_1]) (t := 39) ?hr ?_; (case hd => rfl); (case hg => rfl); (case hr => first | (go_simp; done) | (go_simp; rfl)); intro gb452 hg w9 hbox hb; have BK452 := Aside0.mk (hbox); have GW452 := Aside0.mk ((by rw [hg]; exact (below_size (by repeat with_reducible first | exact HB.out | apply bA | apply bN | apply bD | refine bS ?_ GE450.out | refine bS ?_ GE451.out)) : w.heap.size ≤ gb452)); have GE452 := GW452; replace HB := Aside0.mk (below_step (by repeat with_reducible first | exact HB.out | apply bA | apply bN | apply bD | refine bS ?_ GE450.out | refine bS ?_ GE451.out) hb); have NB450_452 := Aside0.mk ((by rw [hg]; exact Nat.ne_of_lt (blk_lt (by with_reducible repeat first | exact BK450.out | apply kN | apply kD | apply kA)) : gb450 ≠ gb452)); have NB452_450 := Aside0.mk ((by rw [hg]; exact Nat.ne_of_gt (blk_lt (by with_reducible repeat first | exact BK450.out | apply kN | apply kD | apply kA)) : gb452 ≠ gb450)); replace BK450 := Aside0.mk (blk_below (o := .cells #[.int .i64 a0_0, .int .i64 a0_1, .slice A0_2 l0_2.length c0_2] 24 (0, 0)) (by with_reducible repeat first | exact BK450.out | apply kN | apply kD | apply kA) hb); have NB451_452 := Aside0.mk ((by rw [hg]; exact Nat.ne_of_lt (blk_lt (by with_reducible repeat first | exact BK451.out | apply kN | apply kD | apply kA)) : gb451 ≠ gb452)); have NB452_451 := Aside0.mk ((by rw [hg]; exact Nat.ne_of_gt (blk_lt (by with_reducible repeat first | exact BK451.out | apply kN | apply kD | apply kA)) : gb452 ≠ gb451)); replace BK451 := Aside0.mk (blk_below (o := .cells #[.int .i64 a1_0, .int .i64 a1_1, .int .i64 a1_2, .int .i64 a1_3, .int .i64 a1_4] 35 (0, 0)) (by with_reducible repeat first | exact BK451.out | apply kN | apply kD | apply kA) hb); clear hb hbox hg; have hnb10 := NB450_451.out; have hnc10 := NB451_450.out; have hnb11 := NB450_452.out; have hnc11 := NB452_450.out; obtain ⟨hcz12_0, hcz12_1, hcz12_2, hfz12_0, hfz12_1, hfz12_2⟩ := kc3 BK450.out) | (go_at_call 10; (with_reducible refine (dancestudiolaw42_great.calls a0_0 a0_1 _ _ l0_2 true _ ?side1 ?side2 A4.out).mono ?_); (case side1 => repeat (first | exact (Kd.C_below HR0_2.out HB.out) | (with_reducible first | apply cA | apply cN | apply cD))); (case side2 => exact HC0_2.out); rintro e w13 ⟨rfl, hb⟩; replace BK450 := Aside0.mk (blk_below (o := .cells #[.int .i64 a0_0, .int .i64 a0_1, .slice A0_2 l0_2.length c0_2] 24 (0, 0)) (by with_reducible repeat first | exact BK450.out | apply kN | apply kD | apply kA) hb); replace BK451 := Aside0.mk (blk_below (o := .cells #[.int .i64 a1_0, .int .i64 a1_1, .int .i64 a1_2, .int .i64 a1_3, .int .i64 a1_4] 35 (0, 0)) (by with_reducible repeat first | exact BK451.out | apply kN | apply kD | apply kA) hb); replace BK452 := Aside0.mk (blk_below (o := .cells #[.int .u8 a2_0, .int .u8 a2_1] 39 (0, 0)) (by with_reducible repeat first | exact BK452.out | apply kN | apply kD | apply kA) hb); replace HB := Aside0.mk (below_step (by repeat with_reducible first | exact HB.out | apply bA | apply bN | apply bD | refine bS ?_ GE450.out | refine bS ?_ GE451.out | refine bS ?_ GE452.out) hb); (try clear hb); (try clear hb2); (try clear hk); (try clear hi)) | (go_at_call 11; (with_reducible refine (dancestudiolaw42_awake.calls k  t454 _ A6.out).mono ?_); rintro e w14 ⟨rfl, hb⟩; replace BK450 := Aside0.mk (blk_below (o := .cells #[.int .i64 a0_0, .int .i64 a0_1, .slice A0_2 l0_2.length c0_2] 24 (0, 0)) (by with_reducible repeat first | exact BK450.out | apply kN | apply kD | apply kA) hb); replace BK451 := Aside0.mk (blk_below (o := .cells #[.int .i64 a1_0, .int .i64 a1_1, .int .i64 a1_2, .int .i64 a1_3, .int .i64 a1_4] 35 (0, 0)) (by with_reducible repeat first | exact BK451.out | apply kN | apply kD | apply kA) hb); replace BK452 := Aside0.mk (blk_below (o := .cells #[.int .u8 a2_0, .int .u8 a2_1] 39 (0, 0)) (by with_reducible repeat first | exact BK452.out | apply kN | apply kD | apply kA) hb); replace HB := Aside0.mk (below_step (by repeat with_reducible first | exact HB.out | apply bA | apply bN | apply bD | refine bS ?_ GE450.out | refine bS ?_ GE451.out | refine bS ?_ GE452.out) hb); (try clear hb); (try clear hb2); (try clear hk); (try clear hi)))
  repeat (go_quiet (first | ((with_reducible refine gate_dst (N := 3) rfl ?_); refine box_event ?hg (N := 3) ?hd (cs := #[.int .i64 a0_0, .int .i64 a0_1, .slice A0_2 l0_2.length c0_2]) (t := 24) ?hr ?_; (case hd => rfl); (case hg => rfl); (case hr => first | (go_simp; done) | (go_simp; rfl)); intro gb450 hg w7 hbox hb; have BK450 := Aside0.mk (hbox); have GW450 := Aside0.mk ((by rw [hg]; exact (below_size (by repeat with_reducible first | exact HB.out | apply bA | apply bN | apply bD)) : w.heap.size ≤ gb450)); have GE450 := GW450; replace HB := Aside0.mk (below_step (by repeat with_reducible first | exact HB.out | apply bA | apply bN | apply bD) hb); clear hb hbox hg) | ((with_reducible refine gate_dst (N := 4) rfl ?_); refine box_event ?hg (N := 4) ?hd (cs := #[.int .i64 a1_0, .int .i64 a1_1, .int .i64 a1_2, .int .i64 a1_3, .int .i64 a1_4]) (t := 35) ?hr ?_; (case hd => rfl); (case hg => rfl); (case hr => first | (go_simp; done) | (go_simp; rfl)); intro gb451 hg w8 hbox hb; have BK451 := Aside0.mk (hbox); have GW451 := Aside0.mk ((by rw [hg]; exact (below_size (by repeat with_reducible first | exact HB.out | apply bA | apply bN | apply bD | refine bS ?_ GE450.out)) : w.heap.size ≤ gb451)); have GE451 := GW451; replace HB := Aside0.mk (below_step (by repeat with_reducible first | exact HB.out | apply bA | apply bN | apply bD | refine bS ?_ GE450.out) hb); have NB450_451 := Aside0.mk ((by rw [hg]; exact Nat.ne_of_lt (blk_lt (by with_reducible repeat first | exact BK450.out | apply kN | apply kD | apply kA)) : gb450 ≠ gb451)); have NB451_450 := Aside0.mk ((by rw [hg]; exact Nat.ne_of_gt (blk_lt (by with_reducible repeat first | exact BK450.out | apply kN | apply kD | apply kA)) : gb451 ≠ gb450)); replace BK450 := Aside0.mk (blk_below (o := .cells #[.int .i64 a0_0, .int .i64 a0_1, .slice A0_2 l0_2.length c0_2] 24 (0, 0)) (by with_reducible repeat first | exact BK450.out | apply kN | apply kD | apply kA) hb); clear hb hbox hg) | ((with_reducible refine gate_dst (N := 5) rfl ?_); refine box_event ?hg (N := 5) ?hd (cs := #[.int .u8 a2_0, .int .u8 a2_1]) (t := 39) ?hr ?_; (case hd => rfl); (case hg => rfl); (case hr => first | (go_simp; done) | (go_simp; rfl)); intro gb452 hg w9 hbox hb; have BK452 := Aside0.mk (hbox); have GW452 := Aside0.mk ((by rw [hg]; exact (below_size (by repeat with_reducible first | exact HB.out | apply bA | apply bN | apply bD | refine bS ?_ GE450.out | refine bS ?_ GE451.out)) : w.heap.size ≤ gb452)); have GE452 := GW452; replace HB := Aside0.mk (below_step (by repeat with_reducible first | exact HB.out | apply bA | apply bN | apply bD | refine bS ?_ GE450.out | refine bS ?_ GE451.out) hb); have NB450_452 := Aside0.mk ((by rw [hg]; exact Nat.ne_of_lt (blk_lt (by with_reducible repeat first | exact BK450.out | apply kN | apply kD | apply kA)) : gb450 ≠ gb452)); have NB452_450 := Aside0.mk ((by rw [hg]; exact Nat.ne_of_gt (blk_lt (by with_reducible repeat first | exact BK450.out | apply kN | apply kD | apply kA)) : gb452 ≠ gb450)); replace BK450 := Aside0.mk (blk_below (o := .cells #[.int .i64 a0_0, .int .i64 a0_1, .slice A0_2 l0_2.length c0_2] 24 (0, 0)) (by with_reducible repeat first | exact BK450.out | apply kN | apply kD | apply kA) hb); have NB451_452 := Aside0.mk ((by rw [hg]; exact Nat.ne_of_lt (blk_lt (by with_reducible repeat first | exact BK451.out | apply kN | apply kD | apply kA)) : gb451 ≠ gb452)); have NB452_451 := Aside0.mk ((by rw [hg]; exact Nat.ne_of_gt (blk_lt (by with_reducible repeat first | exact BK451.out | apply kN | apply kD | apply kA)) : gb452 ≠ gb451)); replace BK451 := Aside0.mk (blk_below (o := .cells #[.int .i64 a1_0, .int .i64 a1_1, .int .i64 a1_2, .int .i64 a1_3, .int .i64 a1_4] 35 (0, 0)) (by with_reducible repeat first | exact BK451.out | apply kN | apply kD | apply kA) hb); clear hb hbox hg; have hnb10 := NB450_451.out; have hnc10 := NB451_450.out; have hnb11 := NB450_452.out; have hnc11 := NB452_450.out; obtain ⟨hcz12_0, hcz12_1, hcz12_2, hfz12_0, hfz12_1, hfz12_2⟩ := kc3 BK450.out) | (go_at_call 10; (with_reducible refine (dancestudiolaw42_great.calls a0_0 a0_1 _ _ l0_2 true _ ?side1 ?side2 A4.out).mono ?_); (case side1 => repeat (first | exact (Kd.C_below HR0_2.out HB.out) | (with_reducible first | apply cA | apply cN | apply cD))); (case side2 => exact HC0_2.out); rintro e w13 ⟨rfl, hb⟩; replace BK450 := Aside0.mk (blk_below (o := .cells #[.int .i64 a0_0, .int .i64 a0_1, .slice A0_2 l0_2.length c0_2] 24 (0, 0)) (by with_reducible repeat first | exact BK450.out | apply kN | apply kD | apply kA) hb); replace BK451 := Aside0.mk (blk_below (o := .cells #[.int .i64 a1_0, .int .i64 a1_1, .int .i64 a1_2, .int .i64 a1_3, .int .i64 a1_4] 35 (0, 0)) (by with_reducible repeat first | exact BK451.out | apply kN | apply kD | apply kA) hb); replace BK452 := Aside0.mk (blk_below (o := .cells #[.int .u8 a2_0, .int .u8 a2_1] 39 (0, 0)) (by with_reducible repeat first | exact BK452.out | apply kN | apply kD | apply kA) hb); replace HB := Aside0.mk (below_step (by repeat with_reducible first | exact HB.out | apply bA | apply bN | apply bD | refine bS ?_ GE450.out | refine bS ?_ GE451.out | refine bS ?_ GE452.out) hb); (try clear hb); (try clear hb2); (try clear hk); (try clear hi)) | (go_at_call 11; (with_reducible refine (dancestudiolaw42_awake.calls k  t454 _ A6.out).mono ?_); rintro e w14 ⟨rfl, hb⟩; replace BK450 := Aside0.mk (blk_below (o := .cells #[.int .i64 a0_0, .int .i64 a0_1, .slice A0_2 l0_2.length c0_2] 24 (0, 0)) (by with_reducible repeat first | exact BK450.out | apply kN | apply kD | apply kA) hb); replace BK451 := Aside0.mk (blk_below (o := .cells #[.int .i64 a1_0, .int .i64 a1_1, .int .i64 a1_2, .int .i64 a1_3, .int .i64 a1_4] 35 (0, 0)) (by with_reducible repeat first | exact BK451.out | apply kN | apply kD | apply kA) hb); replace BK452 := Aside0.mk (blk_below (o := .cells #[.int .u8 a2_0, .int .u8 a2_1] 39 (0, 0)) (by with_reducible repeat first | exact BK452.out | apply kN | apply kD | apply kA) hb); replace HB := Aside0.mk (below_step (by repeat with_reducible first | exact HB.out | apply bA | apply bN | apply bD | refine bS ?_ GE450.out | refine bS ?_ GE451.out | refine bS ?_ GE452.out) hb); (try clear hb); (try clear hb2); (try clear hk); (try clear hi))); try go_wp2_with (first | ((with_reducible refine gate_dst (N := 3) rfl ?_); refine box_event ?hg (N := 3) ?hd (cs := #[.int .i64 a0_0, .int .i64 a0_1, .slice A0_2 l0_2.length c0_2]) (t := 24) ?hr ?_; (case hd => rfl); (case hg => rfl); (case hr => first | (go_simp; done) | (go_simp; rfl)); intro gb450 hg w7 hbox hb; have BK450 := Aside0.mk (hbox); have GW450 := Aside0.mk ((by rw [hg]; exact (below_size (by repeat with_reducible first | exact HB.out | apply bA | apply bN | apply bD)) : w.heap.size ≤ gb450)); have GE450 := GW450; replace HB := Aside0.mk (below_step (by repeat with_reducible first | exact HB.out | apply bA | apply bN | apply bD) hb); clear hb hbox hg) | ((with_reducible refine gate_dst (N := 4) rfl ?_); refine box_event ?hg (N := 4) ?hd (cs := #[.int .i64 a1_0, .int .i64 a1_1, .int .i64 a1_2, .int .i64 a1_3, .int .i64 a1_4]) (t := 35) ?hr ?_; (case hd => rfl); (case hg => rfl); (case hr => first | (go_simp; done) | (go_simp; rfl)); intro gb451 hg w8 hbox hb; have BK451 := Aside0.mk (hbox); have GW451 := Aside0.mk ((by rw [hg]; exact (below_size (by repeat with_reducible first | exact HB.out | apply bA | apply bN | apply bD | refine bS ?_ GE450.out)) : w.heap.size ≤ gb451)); have GE451 := GW451; replace HB := Aside0.mk (below_step (by repeat with_reducible first | exact HB.out | apply bA | apply bN | apply bD | refine bS ?_ GE450.out) hb); have NB450_451 := Aside0.mk ((by rw [hg]; exact Nat.ne_of_lt (blk_lt (by with_reducible repeat first | exact BK450.out | apply kN | apply kD | apply kA)) : gb450 ≠ gb451)); have NB451_450 := Aside0.mk ((by rw [hg]; exact Nat.ne_of_gt (blk_lt (by with_reducible repeat first | exact BK450.out | apply kN | apply kD | apply kA)) : gb451 ≠ gb450)); replace BK450 := Aside0.mk (blk_below (o := .cells #[.int .i64 a0_0, .int .i64 a0_1, .slice A0_2 l0_2.length c0_2] 24 (0, 0)) (by with_reducible repeat first | exact BK450.out | apply kN | apply kD | apply kA) hb); clear hb hbox hg) | ((with_reducible refine gate_dst (N := 5) rfl ?_); refine box_event ?hg (N := 5) ?hd (cs := #[.int .u8 a2_0, .int .u8 a2_1]) (t := 39) ?hr ?_; (case hd => rfl); (case hg => rfl); (case hr => first | (go_simp; done) | (go_simp; rfl)); intro gb452 hg w9 hbox hb; have BK452 := Aside0.mk (hbox); have GW452 := Aside0.mk ((by rw [hg]; exact (below_size (by repeat with_reducible first | exact HB.out | apply bA | apply bN | apply bD | refine bS ?_ GE450.out | refine bS ?_ GE451.out)) : w.heap.size ≤ gb452)); have GE452 := GW452; replace HB := Aside0.mk (below_step (by repeat with_reducible first | exact HB.out | apply bA | apply bN | apply bD | refine bS ?_ GE450.out | refine bS ?_ GE451.out) hb); have NB450_452 := Aside0.mk ((by rw [hg]; exact Nat.ne_of_lt (blk_lt (by with_reducible repeat first | exact BK450.out | apply kN | apply kD | apply kA)) : gb450 ≠ gb452)); have NB452_450 := Aside0.mk ((by rw [hg]; exact Nat.ne_of_gt (blk_lt (by with_reducible repeat first | exact BK450.out | apply kN | apply kD | apply kA)) : gb452 ≠ gb450)); replace BK450 := Aside0.mk (blk_below (o := .cells #[.int .i64 a0_0, .int .i64 a0_1, .slice A0_2 l0_2.length c0_2] 24 (0, 0)) (by with_reducible repeat first | exact BK450.out | apply kN | apply kD | apply kA) hb); have NB451_452 := Aside0.mk ((by rw [hg]; exact Nat.ne_of_lt (blk_lt (by with_reducible repeat first | exact BK451.out | apply kN | apply kD | apply kA)) : gb451 ≠ gb452)); have NB452_451 := Aside0.mk ((by rw [hg]; exact Nat.ne_of_gt (blk_lt (by with_reducible repeat first | exact BK451.out | apply kN | apply kD | apply kA)) : gb452 ≠ gb451)); replace BK451 := Aside0.mk (blk_below (o := .cells #[.int .i64 a1_0, .int .i64 a1_1, .int .i64 a1_2, .int .i64 a1_3, .int .i64 a1_4] 35 (0, 0)) (by with_reducible repeat first | exact BK451.out | apply kN | apply kD | apply kA) hb); clear hb hbox hg; have hnb10 := NB450_451.out; have hnc10 := NB451_450.out; have hnb11 := NB450_452.out; have hnc11 := NB452_450.out; obtain ⟨hcz12_0, hcz12_1, hcz12_2, hfz12_0, hfz12_1, hfz12_2⟩ := kc3 BK450.out) | (go_at_call 10; (with_reducible refine (dancestudiolaw42_great.calls a0_0 a0_1 _ _ l0_2 true _ ?side1 ?side2 A4.out).mono ?_); (case side1 => repeat (first | exact (Kd.C_below HR0_2.out HB.out) | (with_reducible first | apply cA | apply cN | apply cD))); (case side2 => exact HC0_2.out); rintro e w13 ⟨rfl, hb⟩; replace BK450 := Aside0.mk (blk_below (o := .cells #[.int .i64 a0_0, .int .i64 a0_1, .slice A0_2 l0_2.length c0_2] 24 (0, 0)) (by with_reducible repeat first | exact BK450.out | apply kN | apply kD | apply kA) hb); replace BK451 := Aside0.mk (blk_below (o := .cells #[.int .i64 a1_0, .int .i64 a1_1, .int .i64 a1_2, .int .i64 a1_3, .int .i64 a1_4] 35 (0, 0)) (by with_reducible repeat first | exact BK451.out | apply kN | apply kD | apply kA) hb); replace BK452 := Aside0.mk (blk_below (o := .cells #[.int .u8 a2_0, .int .u8 a2_1] 39 (0, 0)) (by with_reducible repeat first | exact BK452.out | apply kN | apply kD | apply kA) hb); replace HB := Aside0.mk (below_step (by repeat with_reducible first | exact HB.out | apply bA | apply bN | apply bD | refine bS ?_ GE450.out | refine bS ?_ GE451.out | refine bS ?_ GE452.out) hb); (try clear hb); (try clear hb2); (try clear hk); (try clear hi)) | (go_at_call 11; (with_reducible refine (dancestudiolaw42_awake.calls k  t454 _ A6.out).mono ?_); rintro e w14 ⟨rfl, hb⟩; replace BK450 := Aside0.mk (blk_below (o := .cells #[.int .i64 a0_0, .int .i64 a0_1, .slice A0_2 l0_2.length c0_2] 24 (0, 0)) (by with_reducible repeat first | exact BK450.out | apply kN | apply kD | apply kA) hb); replace BK451 := Aside0.mk (blk_below (o := .cells #[.int .i64 a1_0, .int .i64 a1_1, .int .i64 a1_2, .int .i64 a1_3, .int .i64 a1_4] 35 (0, 0)) (by with_reducible repeat first | exact BK451.out | apply kN | apply kD | apply kA) hb); replace BK452 := Aside0.mk (blk_below (o := .cells #[.int .u8 a2_0, .int .u8 a2_1] 39 (0, 0)) (by with_reducible repeat first | exact BK452.out | apply kN | apply kD | apply kA) hb); replace HB := Aside0.mk (below_step (by repeat with_reducible first | exact HB.out | apply bA | apply bN | apply bD | refine bS ?_ GE450.out | refine bS ?_ GE451.out | refine bS ?_ GE452.out) hb); (try clear hb); (try clear hb2); (try clear hk); (try clear hi))))
  go_ret
  exact ⟨by first | rfl | (simp [errW_none, errW_some] <;> rfl) | (simp [*, errW_none, errW_some] <;> rfl), by repeat with_reducible first | exact HB.out | apply bA | apply bN | apply bD | refine bS ?_ GE450.out | refine bS ?_ GE451.out | refine bS ?_ GE452.out⟩
 ·
  replace c5 := Bool.eq_false_iff.mpr c5
  subst c5
  have H1 : ((stage_Clear.f k a0_0 a0_1 l0_2 a1_0 a1_1 a1_2 a1_3 a1_4).bind fun bt462 => (if bt462.2.2 = 0 then (if (wrap64 ((wrap64 (1 + (Int.tmod (wrap64 (a2_0)) 100))) + 1)) = 0 then (none) else (if bt462.1 = true then (if (wrap64 (2 * (wrap64 ((wrap64 ((wrap64 (a1_0 * (wrap64 ((wrap64 (1 + (Int.tmod (wrap64 (a2_0)) 100))) - (Int.tmod (wrap64 (a2_1)) (wrap64 ((wrap64 (1 + (Int.tmod (wrap64 (a2_0)) 100))) + 1))))))) + (wrap64 (a1_2 * (Int.tmod (wrap64 (a2_1)) (wrap64 ((wrap64 (1 + (Int.tmod (wrap64 (a2_0)) 100))) + 1))))))) - (wrap64 (a1_4 * (wrap64 (1 + (Int.tmod (wrap64 (a2_0)) 100))))))))) < (wrap64 ((wrap64 (-a0_0)) * (wrap64 (1 + (Int.tmod (wrap64 (a2_0)) 100))))) then (none) else (if (wrap64 (2 * (wrap64 ((wrap64 ((wrap64 (a1_0 * (wrap64 ((wrap64 (1 + (Int.tmod (wrap64 (a2_0)) 100))) - (Int.tmod (wrap64 (a2_1)) (wrap64 ((wrap64 (1 + (Int.tmod (wrap64 (a2_0)) 100))) + 1))))))) + (wrap64 (a1_2 * (Int.tmod (wrap64 (a2_1)) (wrap64 ((wrap64 (1 + (Int.tmod (wrap64 (a2_0)) 100))) + 1))))))) + (wrap64 (a1_4 * (wrap64 (1 + (Int.tmod (wrap64 (a2_0)) 100))))))))) > (wrap64 (a0_0 * (wrap64 (1 + (Int.tmod (wrap64 (a2_0)) 100))))) then (none) else (if (wrap64 ((wrap64 (a1_1 * (wrap64 ((wrap64 (1 + (Int.tmod (wrap64 (a2_0)) 100))) - (Int.tmod (wrap64 (a2_1)) (wrap64 ((wrap64 (1 + (Int.tmod (wrap64 (a2_0)) 100))) + 1))))))) + (wrap64 (a1_3 * (Int.tmod (wrap64 (a2_1)) (wrap64 ((wrap64 (1 + (Int.tmod (wrap64 (a2_0)) 100))) + 1))))))) < (wrap64 (a1_4 * (wrap64 (1 + (Int.tmod (wrap64 (a2_0)) 100))))) then (none) else (dancestudiolaw42_StageClear.j0 k bt462.2.1 (wrap64 (1 + (Int.tmod (wrap64 (a2_0)) 100))) (wrap64 ((wrap64 (a1_0 * (wrap64 ((wrap64 (1 + (Int.tmod (wrap64 (a2_0)) 100))) - (Int.tmod (wrap64 (a2_1)) (wrap64 ((wrap64 (1 + (Int.tmod (wrap64 (a2_0)) 100))) + 1))))))) + (wrap64 (a1_2 * (Int.tmod (wrap64 (a2_1)) (wrap64 ((wrap64 (1 + (Int.tmod (wrap64 (a2_0)) 100))) + 1))))))) (wrap64 ((wrap64 (a1_1 * (wrap64 ((wrap64 (1 + (Int.tmod (wrap64 (a2_0)) 100))) - (Int.tmod (wrap64 (a2_1)) (wrap64 ((wrap64 (1 + (Int.tmod (wrap64 (a2_0)) 100))) + 1))))))) + (wrap64 (a1_3 * (Int.tmod (wrap64 (a2_1)) (wrap64 ((wrap64 (1 + (Int.tmod (wrap64 (a2_0)) 100))) + 1))))))) (wrap64 (a1_4 * (wrap64 (1 + (Int.tmod (wrap64 (a2_0)) 100))))) (decide ((wrap64 ((wrap64 ((wrap64 (a1_1 * (wrap64 ((wrap64 (1 + (Int.tmod (wrap64 (a2_0)) 100))) - (Int.tmod (wrap64 (a2_1)) (wrap64 ((wrap64 (1 + (Int.tmod (wrap64 (a2_0)) 100))) + 1))))))) + (wrap64 (a1_3 * (Int.tmod (wrap64 (a2_1)) (wrap64 ((wrap64 (1 + (Int.tmod (wrap64 (a2_0)) 100))) + 1))))))) + (wrap64 (a1_4 * (wrap64 (1 + (Int.tmod (wrap64 (a2_0)) 100))))))) > (wrap64 (a0_1 * (wrap64 (1 + (Int.tmod (wrap64 (a2_0)) 100))))))) a0_0 a0_1 l0_2)))) else (dancestudiolaw42_StageClear.j0 k bt462.2.1 (wrap64 (1 + (Int.tmod (wrap64 (a2_0)) 100))) (wrap64 ((wrap64 (a1_0 * (wrap64 ((wrap64 (1 + (Int.tmod (wrap64 (a2_0)) 100))) - (Int.tmod (wrap64 (a2_1)) (wrap64 ((wrap64 (1 + (Int.tmod (wrap64 (a2_0)) 100))) + 1))))))) + (wrap64 (a1_2 * (Int.tmod (wrap64 (a2_1)) (wrap64 ((wrap64 (1 + (Int.tmod (wrap64 (a2_0)) 100))) + 1))))))) (wrap64 ((wrap64 (a1_1 * (wrap64 ((wrap64 (1 + (Int.tmod (wrap64 (a2_0)) 100))) - (Int.tmod (wrap64 (a2_1)) (wrap64 ((wrap64 (1 + (Int.tmod (wrap64 (a2_0)) 100))) + 1))))))) + (wrap64 (a1_3 * (Int.tmod (wrap64 (a2_1)) (wrap64 ((wrap64 (1 + (Int.tmod (wrap64 (a2_0)) 100))) + 1))))))) (wrap64 (a1_4 * (wrap64 (1 + (Int.tmod (wrap64 (a2_0)) 100))))) false a0_0 a0_1 l0_2))) else (if bt462.1 = true then (none) else (if bt462.2.1 = 0 then ((dancestudiolaw42_awake.f k).bind fun t465 => (some t465)) else (none))))) = some r := by rw [if_neg (show ¬ (false = true) by decide)] at H; exact H
  clear H
  have H := H1
  clear H1
  replace H := Option.bind_eq_some_iff.mp H
  obtain ⟨⟨t462, t463, t464⟩, A150, H⟩ := H
  replace H : (if t464 = 0 then (if (wrap64 ((wrap64 (1 + (Int.tmod (wrap64 (a2_0)) 100))) + 1)) = 0 then (none) else (if t462 = true then (if (wrap64 (2 * (wrap64 ((wrap64 ((wrap64 (a1_0 * (wrap64 ((wrap64 (1 + (Int.tmod (wrap64 (a2_0)) 100))) - (Int.tmod (wrap64 (a2_1)) (wrap64 ((wrap64 (1 + (Int.tmod (wrap64 (a2_0)) 100))) + 1))))))) + (wrap64 (a1_2 * (Int.tmod (wrap64 (a2_1)) (wrap64 ((wrap64 (1 + (Int.tmod (wrap64 (a2_0)) 100))) + 1))))))) - (wrap64 (a1_4 * (wrap64 (1 + (Int.tmod (wrap64 (a2_0)) 100))))))))) < (wrap64 ((wrap64 (-a0_0)) * (wrap64 (1 + (Int.tmod (wrap64 (a2_0)) 100))))) then (none) else (if (wrap64 (2 * (wrap64 ((wrap64 ((wrap64 (a1_0 * (wrap64 ((wrap64 (1 + (Int.tmod (wrap64 (a2_0)) 100))) - (Int.tmod (wrap64 (a2_1)) (wrap64 ((wrap64 (1 + (Int.tmod (wrap64 (a2_0)) 100))) + 1))))))) + (wrap64 (a1_2 * (Int.tmod (wrap64 (a2_1)) (wrap64 ((wrap64 (1 + (Int.tmod (wrap64 (a2_0)) 100))) + 1))))))) + (wrap64 (a1_4 * (wrap64 (1 + (Int.tmod (wrap64 (a2_0)) 100))))))))) > (wrap64 (a0_0 * (wrap64 (1 + (Int.tmod (wrap64 (a2_0)) 100))))) then (none) else (if (wrap64 ((wrap64 (a1_1 * (wrap64 ((wrap64 (1 + (Int.tmod (wrap64 (a2_0)) 100))) - (Int.tmod (wrap64 (a2_1)) (wrap64 ((wrap64 (1 + (Int.tmod (wrap64 (a2_0)) 100))) + 1))))))) + (wrap64 (a1_3 * (Int.tmod (wrap64 (a2_1)) (wrap64 ((wrap64 (1 + (Int.tmod (wrap64 (a2_0)) 100))) + 1))))))) < (wrap64 (a1_4 * (wrap64 (1 + (Int.tmod (wrap64 (a2_0)) 100))))) then (none) else (dancestudiolaw42_StageClear.j0 k t463 (wrap64 (1 + (Int.tmod (wrap64 (a2_0)) 100))) (wrap64 ((wrap64 (a1_0 * (wrap64 ((wrap64 (1 + (Int.tmod (wrap64 (a2_0)) 100))) - (Int.tmod (wrap64 (a2_1)) (wrap64 ((wrap64 (1 + (Int.tmod (wrap64 (a2_0)) 100))) + 1))))))) + (wrap64 (a1_2 * (Int.tmod (wrap64 (a2_1)) (wrap64 ((wrap64 (1 + (Int.tmod (wrap64 (a2_0)) 100))) + 1))))))) (wrap64 ((wrap64 (a1_1 * (wrap64 ((wrap64 (1 + (Int.tmod (wrap64 (a2_0)) 100))) - (Int.tmod (wrap64 (a2_1)) (wrap64 ((wrap64 (1 + (Int.tmod (wrap64 (a2_0)) 100))) + 1))))))) + (wrap64 (a1_3 * (Int.tmod (wrap64 (a2_1)) (wrap64 ((wrap64 (1 + (Int.tmod (wrap64 (a2_0)) 100))) + 1))))))) (wrap64 (a1_4 * (wrap64 (1 + (Int.tmod (wrap64 (a2_0)) 100))))) (decide ((wrap64 ((wrap64 ((wrap64 (a1_1 * (wrap64 ((wrap64 (1 + (Int.tmod (wrap64 (a2_0)) 100))) - (Int.tmod (wrap64 (a2_1)) (wrap64 ((wrap64 (1 + (Int.tmod (wrap64 (a2_0)) 100))) + 1))))))) + (wrap64 (a1_3 * (Int.tmod (wrap64 (a2_1)) (wrap64 ((wrap64 (1 + (Int.tmod (wrap64 (a2_0)) 100))) + 1))))))) + (wrap64 (a1_4 * (wrap64 (1 + (Int.tmod (wrap64 (a2_0)) 100))))))) > (wrap64 (a0_1 * (wrap64 (1 + (Int.tmod (wrap64 (a2_0)) 100))))))) a0_0 a0_1 l0_2)))) else (dancestudiolaw42_StageClear.j0 k t463 (wrap64 (1 + (Int.tmod (wrap64 (a2_0)) 100))) (wrap64 ((wrap64 (a1_0 * (wrap64 ((wrap64 (1 + (Int.tmod (wrap64 (a2_0)) 100))) - (Int.tmod (wrap64 (a2_1)) (wrap64 ((wrap64 (1 + (Int.tmod (wrap64 (a2_0)) 100))) + 1))))))) + (wrap64 (a1_2 * (Int.tmod (wrap64 (a2_1)) (wrap64 ((wrap64 (1 + (Int.tmod (wrap64 (a2_0)) 100))) + 1))))))) (wrap64 ((wrap64 (a1_1 * (wrap64 ((wrap64 (1 + (Int.tmod (wrap64 (a2_0)) 100))) - (Int.tmod (wrap64 (a2_1)) (wrap64 ((wrap64 (1 + (Int.tmod (wrap64 (a2_0)) 100))) + 1))))))) + (wrap64 (a1_3 * (Int.tmod (wrap64 (a2_1)) (wrap64 ((wrap64 (1 + (Int.tmod (wrap64 (a2_0)) 100))) + 1))))))) (wrap64 (a1_4 * (wrap64 (1 + (Int.tmod (wrap64 (a2_0)) 100))))) false a0_0 a0_1 l0_2))) else (if t462 = true then (none) else (if t463 = 0 then ((dancestudiolaw42_awake.f k).bind fun t465 => (some t465)) else (none)))) = some r := H
  have A15 := Aside0.mk A150
  clear A150
  by_cases c16 : t464 = 0
  ·
   rw [if_pos c16] at H
   have c16b0 : (t464 == 0) = true := beq_iff_eq.mpr c16
   have c16b1 : (t464 != 0) = false := bne_eq_false_iff_eq.mpr c16
   clear c16
   by_cases c17 : (wrap64 ((wrap64 (1 + (Int.tmod (wrap64 (a2_0)) 100))) + 1)) = 0
   · rw [if_pos c17] at H; exact absurd H (by simp)
   rw [if_neg c17] at H
   have c17b0 : ((wrap64 ((wrap64 (1 + (Int.tmod (wrap64 (a2_0)) 100))) + 1)) == 0) = false := beq_eq_false_iff_ne.mpr c17
   have c17b1 : ((wrap64 ((wrap64 (1 + (Int.tmod (wrap64 (a2_0)) 100))) + 1)) != 0) = true := bne_iff_ne.mpr c17
   have HC18 := Aside0.mk H
   clear H
   go_enter Try.func5, Try.ntmps5
   go_upto_region 9 with (first | ((with_reducible refine gate_dst (N := 3) rfl ?_); refine box_event ?hg (N := 3) ?hd (cs := #[.int .i64 a0_0, .int .i64 a0_1, .slice A0_2 l0_2.length c0_2]) (t := 24) ?hr ?_; (case hd => rfl); (case hg => rfl); (case hr => first | (go_simp; done) | (go_simp; rfl)); intro gb450 hg w19 hbox hb; have BK450 := Aside0.mk (hbox); have GW450 := Aside0.mk ((by rw [hg]; exact (below_size (by repeat with_reducible first | exact HB.out | apply bA | apply bN | apply bD)) : w.heap.size ≤ gb450)); have GE450 := GW450; replace HB := Aside0.mk (below_step (by repeat with_reducible first | exact HB.out | apply bA | apply bN | apply bD) hb); clear hb hbox hg) | ((with_reducible refine gate_dst (N := 4) rfl ?_); refine box_event ?hg (N := 4) ?hd (cs := #[.int .i64 a1_0, .int .i64 a1_1, .int .i64 a1_2, .int .i64 a1_3, .int .i64 a1_4]) (t := 35) ?hr ?_; (case hd => rfl); (case hg => rfl); (case hr => first | (go_simp; done) | (go_simp; rfl)); intro gb451 hg w20 hbox hb; have BK451 := Aside0.mk (hbox); have GW451 := Aside0.mk ((by rw [hg]; exact (below_size (by repeat with_reducible first | exact HB.out | apply bA | apply bN | apply bD | refine bS ?_ GE450.out)) : w.heap.size ≤ gb451)); have GE451 := GW451; replace HB := Aside0.mk (below_step (by repeat with_reducible first | exact HB.out | apply bA | apply bN | apply bD | refine bS ?_ GE450.out) hb); have NB450_451 := Aside0.mk ((by rw [hg]; exact Nat.ne_of_lt (blk_lt (by with_reducible repeat first | exact BK450.out | apply kN | apply kD | apply kA)) : gb450 ≠ gb451)); have NB451_450 := Aside0.mk ((by rw [hg]; exact Nat.ne_of_gt (blk_lt (by with_reducible repeat first | exact BK450.out | apply kN | apply kD | apply kA)) : gb451 ≠ gb450)); replace BK450 := Aside0.mk (blk_below (o := .cells #[.int .i64 a0_0, .int .i64 a0_1, .slice A0_2 l0_2.length c0_2] 24 (0, 0)) (by with_reducible repeat first | exact BK450.out | apply kN | apply kD | apply kA) hb); clear hb hbox hg) | ((with_reducible refine gate_dst (N := 5) rfl ?_); refine box_event ?hg (N := 5) ?hd (cs := #[.int .u8 a2_0, .int .u8 a2_1]) (t := 39) ?hr ?_; (case hd => rfl); (case hg => rfl); (case hr => first | (go_simp; done) | (go_simp; rfl)); intro gb452 hg w21 hbox hb; have BK452 := Aside0.mk (hbox); have GW452 := Aside0.mk ((by rw [hg]; exact (below_size (by repeat with_reducible first | exact HB.out | apply bA | apply bN | apply bD | refine bS ?_ GE450.out | refine bS ?_ GE451.out)) : w.heap.size ≤ gb452)); have GE452 := GW452; replace HB := Aside0.mk (below_step (by repeat with_reducible first | exact HB.out | apply bA | apply bN | apply bD | refine bS ?_ GE450.out | refine bS ?_ GE451.out) hb); have NB450_452 := Aside0.mk ((by rw [hg]; exact Nat.ne_of_lt (blk_lt (by with_reducible repeat first | exact BK450.out | apply kN | apply kD | apply kA)) : gb450 ≠ gb452)); have NB452_450 := Aside0.mk ((by rw [hg]; exact Nat.ne_of_gt (blk_lt (by with_reducible repeat first | exact BK450.out | apply kN | apply kD | apply kA)) : gb452 ≠ gb450)); replace BK450 := Aside0.mk (blk_below (o := .cells #[.int .i64 a0_0, .int .i64 a0_1, .slice A0_2 l0_2.length c0_2] 24 (0, 0)) (by with_reducible repeat first | exact BK450.out | apply kN | apply kD | apply kA) hb); have NB451_452 := Aside0.mk ((by rw [hg]; exact Nat.ne_of_lt (blk_lt (by with_reducible repeat first | exact BK451.out | apply kN | apply kD | apply kA)) : gb451 ≠ gb452)); have NB452_451 := Aside0.mk ((by rw [hg]; exact Nat.ne_of_gt (blk_lt (by with_reducible repeat first | exact BK451.out | apply kN | apply kD | apply kA)) : gb452 ≠ gb451)); replace BK451 := Aside0.mk (blk_below (o := .cells #[.int .i64 a1_0, .int .i64 a1_1, .int .i64 a1_2, .int .i64 a1_3, .int .i64 a1_4] 35 (0, 0)) (by with_reducible repeat first | exact BK451.out | apply kN | apply kD | apply kA) hb); clear hb hbox hg; have hnb22 := NB450_451.out; have hnc22 := NB451_450.out; have hnb23 := NB450_452.out; have hnc23 := NB452_450.out; obtain ⟨hcz24_0, hcz24_1, hcz24_2, hfz24_0, hfz24_1, hfz24_2⟩ := kc3 BK450.out) | (go_at_call 10; (with_reducible refine (dancestudiolaw42_great.calls a0_0 a0_1 _ _ l0_2 false _ ?side1 ?side2 A4.out).mono ?_); (case side1 => repeat (first | exact (Kd.C_below HR0_2.out HB.out) | (with_reducible first | apply cA | apply cN | apply cD))); (case side2 => exact HC0_2.out); rintro e w25 ⟨rfl, hb⟩; replace BK450 := Aside0.mk (blk_below (o := .cells #[.int .i64 a0_0, .int .i64 a0_1, .slice A0_2 l0_2.length c0_2] 24 (0, 0)) (by with_reducible repeat first | exact BK450.out | apply kN | apply kD | apply kA) hb); replace BK451 := Aside0.mk (blk_below (o := .cells #[.int .i64 a1_0, .int .i64 a1_1, .int .i64 a1_2, .int .i64 a1_3, .int .i64 a1_4] 35 (0, 0)) (by with_reducible repeat first | exact BK451.out | apply kN | apply kD | apply kA) hb); replace BK452 := Aside0.mk (blk_below (o := .cells #[.int .u8 a2_0, .int .u8 a2_1] 39 (0, 0)) (by with_reducible repeat first | exact BK452.out | apply kN | apply kD | apply kA) hb); replace HB := Aside0.mk (below_step (by repeat with_reducible first | exact HB.out | apply bA | apply bN | apply bD | refine bS ?_ GE450.out | refine bS ?_ GE451.out | refine bS ?_ GE452.out) hb); (try clear hb); (try clear hb2); (try clear hk); (try clear hi); obtain ⟨hcz26_0, hcz26_1, hcz26_2, hfz26_0, hfz26_1, hfz26_2⟩ := kc3 BK450.out; have hnb27 := NB451_452.out; have hnc27 := NB452_451.out; obtain ⟨hcz28_0, hcz28_1, hcz28_2, hcz28_3, hcz28_4, hfz28_0, hfz28_1, hfz28_2, hfz28_3, hfz28_4⟩ := kc5 BK451.out) | (go_at_call 16; (with_reducible refine (stage_Clear.calls k a0_0 a0_1 _ _ l0_2 a1_0 a1_1 a1_2 a1_3 a1_4 t462 t463 t464 _ ?side1 ?side2 A15.out).mono ?_); (case side1 => repeat (first | exact (Kd.C_below HR0_2.out HB.out) | (with_reducible first | apply cA | apply cN | apply cD))); (case side2 => exact HC0_2.out); rintro e w29 ⟨rfl, hb⟩; replace BK450 := Aside0.mk (blk_below (o := .cells #[.int .i64 a0_0, .int .i64 a0_1, .slice A0_2 l0_2.length c0_2] 24 (0, 0)) (by with_reducible repeat first | exact BK450.out | apply kN | apply kD | apply kA) hb); replace BK451 := Aside0.mk (blk_below (o := .cells #[.int .i64 a1_0, .int .i64 a1_1, .int .i64 a1_2, .int .i64 a1_3, .int .i64 a1_4] 35 (0, 0)) (by with_reducible repeat first | exact BK451.out | apply kN | apply kD | apply kA) hb); replace BK452 := Aside0.mk (blk_below (o := .cells #[.int .u8 a2_0, .int .u8 a2_1] 39 (0, 0)) (by with_reducible repeat first | exact BK452.out | apply kN | apply kD | apply kA) hb); replace HB := Aside0.mk (below_step (by repeat with_reducible first | exact HB.out | apply bA | apply bN | apply bD | refine bS ?_ GE450.out | refine bS ?_ GE451.out | refine bS ?_ GE452.out) hb); (try clear hb); (try clear hb2); (try clear hk); (try clear hi); obtain ⟨hcz30_0, hcz30_1, hfz30_0, hfz30_1⟩ := kc2 BK452.out; obtain ⟨hcz31_0, hcz31_1, hcz31_2, hcz31_3, hcz31_4, hfz31_0, hfz31_1, hfz31_2, hfz31_3, hfz31_4⟩ := kc5 BK451.out))
   repeat (go_quiet (first | ((with_reducible refine gate_dst (N := 3) rfl ?_); refine box_event ?hg (N := 3) ?hd (cs := #[.int .i64 a0_0, .int .i64 a0_1, .slice A0_2 l0_2.length c0_2]) (t := 24) ?hr ?_; (case hd => rfl); (case hg => rfl); (case hr => first | (go_simp; done) | (go_simp; rfl)); intro gb450 hg w19 hbox hb; have BK450 := Aside0.mk (hbox); have GW450 := Aside0.mk ((by rw [hg]; exact (below_size (by repeat with_reducible first | exact HB.out | apply bA | apply bN | apply bD)) : w.heap.size ≤ gb450)); have GE450 := GW450; replace HB := Aside0.mk (below_step (by repeat with_reducible first | exact HB.out | apply bA | apply bN | apply bD) hb); clear hb hbox hg) | ((with_reducible refine gate_dst (N := 4) rfl ?_); refine box_event ?hg (N := 4) ?hd (cs := #[.int .i64 a1_0, .int .i64 a1_1, .int .i64 a1_2, .int .i64 a1_3, .int .i64 a1_4]) (t := 35) ?hr ?_; (case hd => rfl); (case hg => rfl); (case hr => first | (go_simp; done) | (go_simp; rfl)); intro gb451 hg w20 hbox hb; have BK451 := Aside0.mk (hbox); have GW451 := Aside0.mk ((by rw [hg]; exact (below_size (by repeat with_reducible first | exact HB.out | apply bA | apply bN | apply bD | refine bS ?_ GE450.out)) : w.heap.size ≤ gb451)); have GE451 := GW451; replace HB := Aside0.mk (below_step (by repeat with_reducible first | exact HB.out | apply bA | apply bN | apply bD | refine bS ?_ GE450.out) hb); have NB450_451 := Aside0.mk ((by rw [hg]; exact Nat.ne_of_lt (blk_lt (by with_reducible repeat first | exact BK450.out | apply kN | apply kD | apply kA)) : gb450 ≠ gb451)); have NB451_450 := Aside0.mk ((by rw [hg]; exact Nat.ne_of_gt (blk_lt (by with_reducible repeat first | exact BK450.out | apply kN | apply kD | apply kA)) : gb451 ≠ gb450)); replace BK450 := Aside0.mk (blk_below (o := .cells #[.int .i64 a0_0, .int .i64 a0_1, .slice A0_2 l0_2.length c0_2] 24 (0, 0)) (by with_reducible repeat first | exact BK450.out | apply kN | apply kD | apply kA) hb); clear hb hbox hg) | ((with_reducible refine gate_dst (N := 5) rfl ?_); refine box_event ?hg (N := 5) ?hd (cs := #[.int .u8 a2_0, .int .u8 a2_1]) (t := 39) ?hr ?_; (case hd => rfl); (case hg => rfl); (case hr => first | (go_simp; done) | (go_simp; rfl)); intro gb452 hg w21 hbox hb; have BK452 := Aside0.mk (hbox); have GW452 := Aside0.mk ((by rw [hg]; exact (below_size (by repeat with_reducible first | exact HB.out | apply bA | apply bN | apply bD | refine bS ?_ GE450.out | refine bS ?_ GE451.out)) : w.heap.size ≤ gb452)); have GE452 := GW452; replace HB := Aside0.mk (below_step (by repeat with_reducible first | exact HB.out | apply bA | apply bN | apply bD | refine bS ?_ GE450.out | refine bS ?_ GE451.out) hb); have NB450_452 := Aside0.mk ((by rw [hg]; exact Nat.ne_of_lt (blk_lt (by with_reducible repeat first | exact BK450.out | apply kN | apply kD | apply kA)) : gb450 ≠ gb452)); have NB452_450 := Aside0.mk ((by rw [hg]; exact Nat.ne_of_gt (blk_lt (by with_reducible repeat first | exact BK450.out | apply kN | apply kD | apply kA)) : gb452 ≠ gb450)); replace BK450 := Aside0.mk (blk_below (o := .cells #[.int .i64 a0_0, .int .i64 a0_1, .slice A0_2 l0_2.length c0_2] 24 (0, 0)) (by with_reducible repeat first | exact BK450.out | apply kN | apply kD | apply kA) hb); have NB451_452 := Aside0.mk ((by rw [hg]; exact Nat.ne_of_lt (blk_lt (by with_reducible repeat first | exact BK451.out | apply kN | apply kD | apply kA)) : gb451 ≠ gb452)); have NB452_451 := Aside0.mk ((by rw [hg]; exact Nat.ne_of_gt (blk_lt (by with_reducible repeat first | exact BK451.out | apply kN | apply kD | apply kA)) : gb452 ≠ gb451)); replace BK451 := Aside0.mk (blk_below (o := .cells #[.int .i64 a1_0, .int .i64 a1_1, .int .i64 a1_2, .int .i64 a1_3, .int .i64 a1_4] 35 (0, 0)) (by with_reducible repeat first | exact BK451.out | apply kN | apply kD | apply kA) hb); clear hb hbox hg; have hnb22 := NB450_451.out; have hnc22 := NB451_450.out; have hnb23 := NB450_452.out; have hnc23 := NB452_450.out; obtain ⟨hcz24_0, hcz24_1, hcz24_2, hfz24_0, hfz24_1, hfz24_2⟩ := kc3 BK450.out) | (go_at_call 10; (with_reducible refine (dancestudiolaw42_great.calls a0_0 a0_1 _ _ l0_2 false _ ?side1 ?side2 A4.out).mono ?_); (case side1 => repeat (first | exact (Kd.C_below HR0_2.out HB.out) | (with_reducible first | apply cA | apply cN | apply cD))); (case side2 => exact HC0_2.out); rintro e w25 ⟨rfl, hb⟩; replace BK450 := Aside0.mk (blk_below (o := .cells #[.int .i64 a0_0, .int .i64 a0_1, .slice A0_2 l0_2.length c0_2] 24 (0, 0)) (by with_reducible repeat first | exact BK450.out | apply kN | apply kD | apply kA) hb); replace BK451 := Aside0.mk (blk_below (o := .cells #[.int .i64 a1_0, .int .i64 a1_1, .int .i64 a1_2, .int .i64 a1_3, .int .i64 a1_4] 35 (0, 0)) (by with_reducible repeat first | exact BK451.out | apply kN | apply kD | apply kA) hb); replace BK452 := Aside0.mk (blk_below (o := .cells #[.int .u8 a2_0, .int .u8 a2_1] 39 (0, 0)) (by with_reducible repeat first | exact BK452.out | apply kN | apply kD | apply kA) hb); replace HB := Aside0.mk (below_step (by repeat with_reducible first | exact HB.out | apply bA | apply bN | apply bD | refine bS ?_ GE450.out | refine bS ?_ GE451.out | refine bS ?_ GE452.out) hb); (try clear hb); (try clear hb2); (try clear hk); (try clear hi); obtain ⟨hcz26_0, hcz26_1, hcz26_2, hfz26_0, hfz26_1, hfz26_2⟩ := kc3 BK450.out; have hnb27 := NB451_452.out; have hnc27 := NB452_451.out; obtain ⟨hcz28_0, hcz28_1, hcz28_2, hcz28_3, hcz28_4, hfz28_0, hfz28_1, hfz28_2, hfz28_3, hfz28_4⟩ := kc5 BK451.out) | (go_at_call 16; (with_reducible refine (stage_Clear.calls k a0_0 a0_1 _ _ l0_2 a1_0 a1_1 a1_2 a1_3 a1_4 t462 t463 t464 _ ?side1 ?side2 A15.out).mono ?_); (case side1 => repeat (first | exact (Kd.C_below HR0_2.out HB.out) | (with_reducible first | apply cA | apply cN | apply cD))); (case side2 => exact HC0_2.out); rintro e w29 ⟨rfl, hb⟩; replace BK450 := Aside0.mk (blk_below (o := .cells #[.int .i64 a0_0, .int .i64 a0_1, .slice A0_2 l0_2.length c0_2] 24 (0, 0)) (by with_reducible repeat first | exact BK450.out | apply kN | apply kD | apply kA) hb); replace BK451 := Aside0.mk (blk_below (o := .cells #[.int .i64 a1_0, .int .i64 a1_1, .int .i64 a1_2, .int .i64 a1_3, .int .i64 a1_4] 35 (0, 0)) (by with_reducible repeat first | exact BK451.out | apply kN | apply kD | apply kA) hb); replace BK452 := Aside0.mk (blk_below (o := .cells #[.int .u8 a2_0, .int .u8 a2_1] 39 (0, 0)) (by with_reducible repeat first | exact BK452.out | apply kN | apply kD | apply kA) hb); replace HB := Aside0.mk (below_step (by repeat with_reducible first | exact HB.out | apply bA | apply bN | apply bD | refine bS ?_ GE450.out | refine bS ?_ GE451.out | refine bS ?_ GE452.out) hb); (try clear hb); (try clear hb2); (try clear hk); (try clear hi); obtain ⟨hcz30_0, hcz30_1, hfz30_0, hfz30_1⟩ := kc2 BK452.out; obtain ⟨hcz31_0, hcz31_1, hcz31_2, hcz31_3, hcz31_4, hfz31_0, hfz31_1, hfz31_2, hfz31_3, hfz31_4⟩ := kc5 BK451.out)); go_upto_region 9 with (first | ((with_reducible refine gate_dst (N := 3) rfl ?_); refine box_event ?hg (N := 3) ?hd (cs := #[.int .i64 a0_0, .int .i64 a0_1, .slice A0_2 l0_2.length c0_2]) (t := 24) ?hr ?_; (case hd => rfl); (case hg => rfl); (case hr => first | (go_simp; done) | (go_simp; rfl)); intro gb450 hg w19 hbox hb; have BK450 := Aside0.mk (hbox); have GW450 := Aside0.mk ((by rw [hg]; exact (below_size (by repeat with_reducible first | exact HB.out | apply bA | apply bN | apply bD)) : w.heap.size ≤ gb450)); have GE450 := GW450; replace HB := Aside0.mk (below_step (by repeat with_reducible first | exact HB.out | apply bA | apply bN | apply bD) hb); clear hb hbox hg) | ((with_reducible refine gate_dst (N := 4) rfl ?_); refine box_event ?hg (N := 4) ?hd (cs := #[.int .i64 a1_0, .int .i64 a1_1, .int .i64 a1_2, .int .i64 a1_3, .int .i64 a1_4]) (t := 35) ?hr ?_; (case hd => rfl); (case hg => rfl); (case hr => first | (go_simp; done) | (go_simp; rfl)); intro gb451 hg w20 hbox hb; have BK451 := Aside0.mk (hbox); have GW451 := Aside0.mk ((by rw [hg]; exact (below_size (by repeat with_reducible first | exact HB.out | apply bA | apply bN | apply bD | refine bS ?_ GE450.out)) : w.heap.size ≤ gb451)); have GE451 := GW451; replace HB := Aside0.mk (below_step (by repeat with_reducible first | exact HB.out | apply bA | apply bN | apply bD | refine bS ?_ GE450.out) hb); have NB450_451 := Aside0.mk ((by rw [hg]; exact Nat.ne_of_lt (blk_lt (by with_reducible repeat first | exact BK450.out | apply kN | apply kD | apply kA)) : gb450 ≠ gb451)); have NB451_450 := Aside0.mk ((by rw [hg]; exact Nat.ne_of_gt (blk_lt (by with_reducible repeat first | exact BK450.out | apply kN | apply kD | apply kA)) : gb451 ≠ gb450)); replace BK450 := Aside0.mk (blk_below (o := .cells #[.int .i64 a0_0, .int .i64 a0_1, .slice A0_2 l0_2.length c0_2] 24 (0, 0)) (by with_reducible repeat first | exact BK450.out | apply kN | apply kD | apply kA) hb); clear hb hbox hg) | ((with_reducible refine gate_dst (N := 5) rfl ?_); refine box_event ?hg (N := 5) ?hd (cs := #[.int .u8 a2_0, .int .u8 a2_1]) (t := 39) ?hr ?_; (case hd => rfl); (case hg => rfl); (case hr => first | (go_simp; done) | (go_simp; rfl)); intro gb452 hg w21 hbox hb; have BK452 := Aside0.mk (hbox); have GW452 := Aside0.mk ((by rw [hg]; exact (below_size (by repeat with_reducible first | exact HB.out | apply bA | apply bN | apply bD | refine bS ?_ GE450.out | refine bS ?_ GE451.out)) : w.heap.size ≤ gb452)); have GE452 := GW452; replace HB := Aside0.mk (below_step (by repeat with_reducible first | exact HB.out | apply bA | apply bN | apply bD | refine bS ?_ GE450.out | refine bS ?_ GE451.out) hb); have NB450_452 := Aside0.mk ((by rw [hg]; exact Nat.ne_of_lt (blk_lt (by with_reducible repeat first | exact BK450.out | apply kN | apply kD | apply kA)) : gb450 ≠ gb452)); have NB452_450 := Aside0.mk ((by rw [hg]; exact Nat.ne_of_gt (blk_lt (by with_reducible repeat first | exact BK450.out | apply kN | apply kD | apply kA)) : gb452 ≠ gb450)); replace BK450 := Aside0.mk (blk_below (o := .cells #[.int .i64 a0_0, .int .i64 a0_1, .slice A0_2 l0_2.length c0_2] 24 (0, 0)) (by with_reducible repeat first | exact BK450.out | apply kN | apply kD | apply kA) hb); have NB451_452 := Aside0.mk ((by rw [hg]; exact Nat.ne_of_lt (blk_lt (by with_reducible repeat first | exact BK451.out | apply kN | apply kD | apply kA)) : gb451 ≠ gb452)); have NB452_451 := Aside0.mk ((by rw [hg]; exact Nat.ne_of_gt (blk_lt (by with_reducible repeat first | exact BK451.out | apply kN | apply kD | apply kA)) : gb452 ≠ gb451)); replace BK451 := Aside0.mk (blk_below (o := .cells #[.int .i64 a1_0, .int .i64 a1_1, .int .i64 a1_2, .int .i64 a1_3, .int .i64 a1_4] 35 (0, 0)) (by with_reducible repeat first | exact BK451.out | apply kN | apply kD | apply kA) hb); clear hb hbox hg; have hnb22 := NB450_451.out; have hnc22 := NB451_450.out; have hnb23 := NB450_452.out; have hnc23 := NB452_450.out; obtain ⟨hcz24_0, hcz24_1, hcz24_2, hfz24_0, hfz24_1, hfz24_2⟩ := kc3 BK450.out) | (go_at_call 10; (with_reducible refine (dancestudiolaw42_great.calls a0_0 a0_1 _ _ l0_2 false _ ?side1 ?side2 A4.out).mono ?_); (case side1 => repeat (first | exact (Kd.C_below HR0_2.out HB.out) | (with_reducible first | apply cA | apply cN | apply cD))); (case side2 => exact HC0_2.out); rintro e w25 ⟨rfl, hb⟩; replace BK450 := Aside0.mk (blk_below (o := .cells #[.int .i64 a0_0, .int .i64 a0_1, .slice A0_2 l0_2.length c0_2] 24 (0, 0)) (by with_reducible repeat first | exact BK450.out | apply kN | apply kD | apply kA) hb); replace BK451 := Aside0.mk (blk_below (o := .cells #[.int .i64 a1_0, .int .i64 a1_1, .int .i64 a1_2, .int .i64 a1_3, .int .i64 a1_4] 35 (0, 0)) (by with_reducible repeat first | exact BK451.out | apply kN | apply kD | apply kA) hb); replace BK452 := Aside0.mk (blk_below (o := .cells #[.int .u8 a2_0, .int .u8 a2_1] 39 (0, 0)) (by with_reducible repeat first | exact BK452.out | apply kN | apply kD | apply kA) hb); replace HB := Aside0.mk (below_step (by repeat with_reducible first | exact HB.out | apply bA | apply bN | apply bD | refine bS ?_ GE450.out | refine bS ?_ GE451.out | refine bS ?_ GE452.out) hb); (try clear hb); (try clear hb2); (try clear hk); (try clear hi); obtain ⟨hcz26_0, hcz26_1, hcz26_2, hfz26_0, hfz26_1, hfz26_2⟩ := kc3 BK450.out; have hnb27 := NB451_452.out; have hnc27 := NB452_451.out; obtain ⟨hcz28_0, hcz28_1, hcz28_2, hcz28_3, hcz28_4, hfz28_0, hfz28_1, hfz28_2, hfz28_3, hfz28_4⟩ := kc5 BK451.out) | (go_at_call 16; (with_reducible refine (stage_Clear.calls k a0_0 a0_1 _ _ l0_2 a1_0 a1_1 a1_2 a1_3 a1_4 t462 t463 t464 _ ?side1 ?side2 A15.out).mono ?_); (case side1 => repeat (first | exact (Kd.C_below HR0_2.out HB.out) | (with_reducible first | apply cA | apply cN | apply cD))); (case side2 => exact HC0_2.out); rintro e w29 ⟨rfl, hb⟩; replace BK450 := Aside0.mk (blk_below (o := .cells #[.int .i64 a0_0, .int .i64 a0_1, .slice A0_2 l0_2.length c0_2] 24 (0, 0)) (by with_reducible repeat first | exact BK450.out | apply kN | apply kD | apply kA) hb); replace BK451 := Aside0.mk (blk_below (o := .cells #[.int .i64 a1_0, .int .i64 a1_1, .int .i64 a1_2, .int .i64 a1_3, .int .i64 a1_4] 35 (0, 0)) (by with_reducible repeat first | exact BK451.out | apply kN | apply kD | apply kA) hb); replace BK452 := Aside0.mk (blk_below (o := .cells #[.int .u8 a2_0, .int .u8 a2_1] 39 (0, 0)) (by with_reducible repeat first | exact BK452.out | apply kN | apply kD | apply kA) hb); replace HB := Aside0.mk (below_step (by repeat with_reducible first | exact HB.out | apply bA | apply bN | apply bD | refine bS ?_ GE450.out | refine bS ?_ GE451.out | refine bS ?_ GE452.out) hb); (try clear hb); (try clear hb2); (try clear hk); (try clear hi); obtain ⟨hcz30_0, hcz30_1, hfz30_0, hfz30_1⟩ := kc2 BK452.out; obtain ⟨hcz31_0, hcz31_1, hcz31_2, hcz31_3, hcz31_4, hfz31_0, hfz31_1, hfz31_2, hfz31_3, hfz31_4⟩ := kc5 BK451.out)))
   (try simp only [Act.put, List.setIfInBounds_toArray, List.set_cons_zero, List.set_cons_succ])
   go_cut [120] (fun v120 wc => ∃ (kq : Nat) (x120_17 : Bool), v120 = .bool x120_17 ∧ Aside0 (dancestudiolaw42_StageClear.j0 kq t463 (wrap64 (1 + (Int.tmod (wrap64 (a2_0)) 100))) (wrap64 ((wrap64 (a1_0 * (wrap64 ((wrap64 (1 + (Int.tmod (wrap64 (a2_0)) 100))) - (Int.tmod (wrap64 (a2_1)) (wrap64 ((wrap64 (1 + (Int.tmod (wrap64 (a2_0)) 100))) + 1))))))) + (wrap64 (a1_2 * (Int.tmod (wrap64 (a2_1)) (wrap64 ((wrap64 (1 + (Int.tmod (wrap64 (a2_0)) 100))) + 1))))))) (wrap64 ((wrap64 (a1_1 * (wrap64 ((wrap64 (1 + (Int.tmod (wrap64 (a2_0)) 100))) - (Int.tmod (wrap64 (a2_1)) (wrap64 ((wrap64 (1 + (Int.tmod (wrap64 (a2_0)) 100))) + 1))))))) + (wrap64 (a1_3 * (Int.tmod (wrap64 (a2_1)) (wrap64 ((wrap64 (1 + (Int.tmod (wrap64 (a2_0)) 100))) + 1))))))) (wrap64 (a1_4 * (wrap64 (1 + (Int.tmod (wrap64 (a2_0)) 100))))) x120_17 a0_0 a0_1 l0_2 = some r) ∧ Aside0 (kq ≤ k) ∧ Aside0 (wc.heap[gb450]? = some (.cells #[.int .i64 a0_0, .int .i64 a0_1, (.slice A0_2 l0_2.length c0_2)] 24 (0, 0))) ∧ Aside0 (wc.heap[gb451]? = some (.cells #[.int .i64 a1_0, .int .i64 a1_1, .int .i64 a1_2, .int .i64 a1_3, .int .i64 a1_4] 35 (0, 0))) ∧ Aside0 (wc.heap[gb452]? = some (.cells #[.int .u8 a2_0, .int .u8 a2_1] 39 (0, 0))) ∧ Aside0 (Below w.heap.size w wc))
   case first =>
    have H := HC18.out
    clear HC18
    by_cases c32 : t462 = true
    ·
     subst c32
     have H1 : (if (wrap64 (2 * (wrap64 ((wrap64 ((wrap64 (a1_0 * (wrap64 ((wrap64 (1 + (Int.tmod (wrap64 (a2_0)) 100))) - (Int.tmod (wrap64 (a2_1)) (wrap64 ((wrap64 (1 + (Int.tmod (wrap64 (a2_0)) 100))) + 1))))))) + (wrap64 (a1_2 * (Int.tmod (wrap64 (a2_1)) (wrap64 ((wrap64 (1 + (Int.tmod (wrap64 (a2_0)) 100))) + 1))))))) - (wrap64 (a1_4 * (wrap64 (1 + (Int.tmod (wrap64 (a2_0)) 100))))))))) < (wrap64 ((wrap64 (-a0_0)) * (wrap64 (1 + (Int.tmod (wrap64 (a2_0)) 100))))) then (none) else (if (wrap64 (2 * (wrap64 ((wrap64 ((wrap64 (a1_0 * (wrap64 ((wrap64 (1 + (Int.tmod (wrap64 (a2_0)) 100))) - (Int.tmod (wrap64 (a2_1)) (wrap64 ((wrap64 (1 + (Int.tmod (wrap64 (a2_0)) 100))) + 1))))))) + (wrap64 (a1_2 * (Int.tmod (wrap64 (a2_1)) (wrap64 ((wrap64 (1 + (Int.tmod (wrap64 (a2_0)) 100))) + 1))))))) + (wrap64 (a1_4 * (wrap64 (1 + (Int.tmod (wrap64 (a2_0)) 100))))))))) > (wrap64 (a0_0 * (wrap64 (1 + (Int.tmod (wrap64 (a2_0)) 100))))) then (none) else (if (wrap64 ((wrap64 (a1_1 * (wrap64 ((wrap64 (1 + (Int.tmod (wrap64 (a2_0)) 100))) - (Int.tmod (wrap64 (a2_1)) (wrap64 ((wrap64 (1 + (Int.tmod (wrap64 (a2_0)) 100))) + 1))))))) + (wrap64 (a1_3 * (Int.tmod (wrap64 (a2_1)) (wrap64 ((wrap64 (1 + (Int.tmod (wrap64 (a2_0)) 100))) + 1))))))) < (wrap64 (a1_4 * (wrap64 (1 + (Int.tmod (wrap64 (a2_0)) 100))))) then (none) else (dancestudiolaw42_StageClear.j0 k t463 (wrap64 (1 + (Int.tmod (wrap64 (a2_0)) 100))) (wrap64 ((wrap64 (a1_0 * (wrap64 ((wrap64 (1 + (Int.tmod (wrap64 (a2_0)) 100))) - (Int.tmod (wrap64 (a2_1)) (wrap64 ((wrap64 (1 + (Int.tmod (wrap64 (a2_0)) 100))) + 1))))))) + (wrap64 (a1_2 * (Int.tmod (wrap64 (a2_1)) (wrap64 ((wrap64 (1 + (Int.tmod (wrap64 (a2_0)) 100))) + 1))))))) (wrap64 ((wrap64 (a1_1 * (wrap64 ((wrap64 (1 + (Int.tmod (wrap64 (a2_0)) 100))) - (Int.tmod (wrap64 (a2_1)) (wrap64 ((wrap64 (1 + (Int.tmod (wrap64 (a2_0)) 100))) + 1))))))) + (wrap64 (a1_3 * (Int.tmod (wrap64 (a2_1)) (wrap64 ((wrap64 (1 + (Int.tmod (wrap64 (a2_0)) 100))) + 1))))))) (wrap64 (a1_4 * (wrap64 (1 + (Int.tmod (wrap64 (a2_0)) 100))))) (decide ((wrap64 ((wrap64 ((wrap64 (a1_1 * (wrap64 ((wrap64 (1 + (Int.tmod (wrap64 (a2_0)) 100))) - (Int.tmod (wrap64 (a2_1)) (wrap64 ((wrap64 (1 + (Int.tmod (wrap64 (a2_0)) 100))) + 1))))))) + (wrap64 (a1_3 * (Int.tmod (wrap64 (a2_1)) (wrap64 ((wrap64 (1 + (Int.tmod (wrap64 (a2_0)) 100))) + 1))))))) + (wrap64 (a1_4 * (wrap64 (1 + (Int.tmod (wrap64 (a2_0)) 100))))))) > (wrap64 (a0_1 * (wrap64 (1 + (Int.tmod (wrap64 (a2_0)) 100))))))) a0_0 a0_1 l0_2)))) = some r := by rw [if_pos rfl] at H; exact H
     clear H
     have H := H1
     clear H1
     by_cases c33 : (wrap64 (2 * (wrap64 ((wrap64 ((wrap64 (a1_0 * (wrap64 ((wrap64 (1 + (Int.tmod (wrap64 (a2_0)) 100))) - (Int.tmod (wrap64 (a2_1)) (wrap64 ((wrap64 (1 + (Int.tmod (wrap64 (a2_0)) 100))) + 1))))))) + (wrap64 (a1_2 * (Int.tmod (wrap64 (a2_1)) (wrap64 ((wrap64 (1 + (Int.tmod (wrap64 (a2_0)) 100))) + 1))))))) - (wrap64 (a1_4 * (wrap64 (1 + (Int.tmod (wrap64 (a2_0)) 100))))))))) < (wrap64 ((wrap64 (-a0_0)) * (wrap64 (1 + (Int.tmod (wrap64 (a2_0)) 100)))))
     · rw [if_pos c33] at H; exact absurd H (by simp)
     rw [if_neg c33] at H
     have c33b0 := decide_eq_false c33
     clear c33
     (first | rw [c33b0] | (simp only [i64_w, i32_w]; rw [c33b0]) | skip)
     by_cases c34 : (wrap64 (2 * (wrap64 ((wrap64 ((wrap64 (a1_0 * (wrap64 ((wrap64 (1 + (Int.tmod (wrap64 (a2_0)) 100))) - (Int.tmod (wrap64 (a2_1)) (wrap64 ((wrap64 (1 + (Int.tmod (wrap64 (a2_0)) 100))) + 1))))))) + (wrap64 (a1_2 * (Int.tmod (wrap64 (a2_1)) (wrap64 ((wrap64 (1 + (Int.tmod (wrap64 (a2_0)) 100))) + 1))))))) + (wrap64 (a1_4 * (wrap64 (1 + (Int.tmod (wrap64 (a2_0)) 100))))))))) > (wrap64 (a0_0 * (wrap64 (1 + (Int.tmod (wrap64 (a2_0)) 100)))))
     · rw [if_pos c34] at H; exact absurd H (by simp)
     rw [if_neg c34] at H
     have c34b0 := decide_eq_false c34
     clear c34
     by_cases c35 : (wrap64 ((wrap64 (a1_1 * (wrap64 ((wrap64 (1 + (Int.tmod (wrap64 (a2_0)) 100))) - (Int.tmod (wrap64 (a2_1)) (wrap64 ((wrap64 (1 + (Int.tmod (wrap64 (a2_0)) 100))) + 1))))))) + (wrap64 (a1_3 * (Int.tmod (wrap64 (a2_1)) (wrap64 ((wrap64 (1 + (Int.tmod (wrap64 (a2_0)) 100))) + 1))))))) < (wrap64 (a1_4 * (wrap64 (1 + (Int.tmod (wrap64 (a2_0)) 100)))))
     · rw [if_pos c35] at H; exact absurd H (by simp)
     rw [if_neg c35] at H
     have c35b0 := decide_eq_false c35
     clear c35
     have H' := Aside0.mk H
     clear H
     have hnb36 := NB450_451.out
     have hnc36 := NB451_450.out
     have hnb37 := NB450_452.out
     have hnc37 := NB452_450.out
     obtain ⟨hcz38_0, hcz38_1, hcz38_2, hfz38_0, hfz38_1, hfz38_2⟩ := kc3 BK450.out
     go_wp2
     repeat (go_quiet (fail); try go_wp2)
     go_meet
     case rel => exact ⟨_, (decide ((wrap64 ((wrap64 ((wrap64 (a1_1 * (wrap64 ((wrap64 (1 + (Int.tmod (wrap64 (a2_0)) 100))) - (Int.tmod (wrap64 (a2_1)) (wrap64 ((wrap64 (1 + (Int.tmod (wrap64 (a2_0)) 100))) + 1))))))) + (wrap64 (a1_3 * (Int.tmod (wrap64 (a2_1)) (wrap64 ((wrap64 (1 + (Int.tmod (wrap64 (a2_0)) 100))) + 1))))))) + (wrap64 (a1_4 * (wrap64 (1 + (Int.tmod (wrap64 (a2_0)) 100))))))) > (wrap64 (a0_1 * (wrap64 (1 + (Int.tmod (wrap64 (a2_0)) 100))))))), (by first | rfl | (simp; done) | (simp [*]; done)), H', ⟨by first | omega | exact Nat.le_refl _⟩, ⟨by (with_reducible repeat first | apply kN | apply kD | apply kA); exact BK450.out⟩, ⟨by (with_reducible repeat first | apply kN | apply kD | apply kA); exact BK451.out⟩, ⟨by (with_reducible repeat first | apply kN | apply kD | apply kA); exact BK452.out⟩, ⟨by repeat with_reducible first | exact HB.out | apply bA | apply bN | apply bD | refine bS ?_ GE450.out | refine bS ?_ GE451.out | refine bS ?_ GE452.out⟩⟩
    ·
     replace c32 := Bool.eq_false_iff.mpr c32
     subst c32
     have H1 : (dancestudiolaw42_StageClear.j0 k t463 (wrap64 (1 + (Int.tmod (wrap64 (a2_0)) 100))) (wrap64 ((wrap64 (a1_0 * (wrap64 ((wrap64 (1 + (Int.tmod (wrap64 (a2_0)) 100))) - (Int.tmod (wrap64 (a2_1)) (wrap64 ((wrap64 (1 + (Int.tmod (wrap64 (a2_0)) 100))) + 1))))))) + (wrap64 (a1_2 * (Int.tmod (wrap64 (a2_1)) (wrap64 ((wrap64 (1 + (Int.tmod (wrap64 (a2_0)) 100))) + 1))))))) (wrap64 ((wrap64 (a1_1 * (wrap64 ((wrap64 (1 + (Int.tmod (wrap64 (a2_0)) 100))) - (Int.tmod (wrap64 (a2_1)) (wrap64 ((wrap64 (1 + (Int.tmod (wrap64 (a2_0)) 100))) + 1))))))) + (wrap64 (a1_3 * (Int.tmod (wrap64 (a2_1)) (wrap64 ((wrap64 (1 + (Int.tmod (wrap64 (a2_0)) 100))) + 1))))))) (wrap64 (a1_4 * (wrap64 (1 + (Int.tmod (wrap64 (a2_0)) 100))))) false a0_0 a0_1 l0_2) = some r := by rw [if_neg (show ¬ (false = true) by decide)] at H; exact H
     clear H
     have H := H1
     clear H1
     have H' := Aside0.mk H
     clear H
     go_wp2
     repeat (go_quiet (fail); try go_wp2)
     go_meet
     case rel => exact ⟨_, (false), (by first | rfl | (simp; done) | (simp [*]; done)), H', ⟨by first | omega | exact Nat.le_refl _⟩, ⟨by (with_reducible repeat first | apply kN | apply kD | apply kA); exact BK450.out⟩, ⟨by (with_reducible repeat first | apply kN | apply kD | apply kA); exact BK451.out⟩, ⟨by (with_reducible repeat first | apply kN | apply kD | apply kA); exact BK452.out⟩, ⟨by repeat with_reducible first | exact HB.out | apply bA | apply bN | apply bD | refine bS ?_ GE450.out | refine bS ?_ GE451.out | refine bS ?_ GE452.out⟩⟩
   case rest =>
    clear HC18
    try clear c1
    try clear c2
    try clear p2
    try clear c3
    try clear c5
    try clear p6
    try clear c10
    try clear c11
    try clear c16
    try clear c16b0
    try clear c16b1
    try clear c17
    try clear c17b0
    try clear c17b1
    try clear c22
    try clear c23
    try clear c27
    try clear c32
    try clear c33
    try clear c33b0
    try clear c34
    try clear c34b0
    try clear c35
    try clear c35b0
    try clear c36
    try clear c37
    try clear hcz12_0
    try clear hcz12_1
    try clear hcz12_2
    try clear hcz24_0
    try clear hcz24_1
    try clear hcz24_2
    try clear hcz26_0
    try clear hcz26_1
    try clear hcz26_2
    try clear hcz28_0
    try clear hcz28_1
    try clear hcz28_2
    try clear hcz28_3
    try clear hcz28_4
    try clear hcz30_0
    try clear hcz30_1
    try clear hcz31_0
    try clear hcz31_1
    try clear hcz31_2
    try clear hcz31_3
    try clear hcz31_4
    try clear hcz38_0
    try clear hcz38_1
    try clear hcz38_2
    try clear hfz12_0
    try clear hfz12_1
    try clear hfz12_2
    try clear hfz24_0
    try clear hfz24_1
    try clear hfz24_2
    try clear hfz26_0
    try clear hfz26_1
    try clear hfz26_2
    try clear hfz28_0
    try clear hfz28_1
    try clear hfz28_2
    try clear hfz28_3
    try clear hfz28_4
    try clear hfz30_0
    try clear hfz30_1
    try clear hfz31_0
    try clear hfz31_1
    try clear hfz31_2
    try clear hfz31_3
    try clear hfz31_4
    try clear hfz38_0
    try clear hfz38_1
    try clear hfz38_2
    obtain ⟨kq, x120_17, rfl, HA, HJ17, BK450, BK451, BK452, HB⟩ := hcut
    cases kq with
    | zero => exact absurd HA.out (by simp [dancestudiolaw42_StageClear.j0])
    | succ kj17 =>
     have H := HA.out
     clear HA
     simp only [dancestudiolaw42_StageClear.j0] at H
     by_cases c39 : x120_17 = true
     ·
      subst c39
      have H1 : (none) = some r := by rw [if_pos rfl] at H; exact H
      clear H
      have H := H1
      clear H1
      exact absurd H (by simp)
     ·
      replace c39 := Bool.eq_false_iff.mpr c39
      subst c39
      have H1 : (if t463 < (-1) then (none) else (if t463 ≥ (l0_2.length : Int) then (none) else (dancestudiolaw42_StageClear.l0 kj17 t463 (wrap64 (1 + (Int.tmod (wrap64 (a2_0)) 100))) (wrap64 ((wrap64 (a1_0 * (wrap64 ((wrap64 (1 + (Int.tmod (wrap64 (a2_0)) 100))) - (Int.tmod (wrap64 (a2_1)) (wrap64 ((wrap64 (1 + (Int.tmod (wrap64 (a2_0)) 100))) + 1))))))) + (wrap64 (a1_2 * (Int.tmod (wrap64 (a2_1)) (wrap64 ((wrap64 (1 + (Int.tmod (wrap64 (a2_0)) 100))) + 1))))))) (wrap64 ((wrap64 (a1_1 * (wrap64 ((wrap64 (1 + (Int.tmod (wrap64 (a2_0)) 100))) - (Int.tmod (wrap64 (a2_1)) (wrap64 ((wrap64 (1 + (Int.tmod (wrap64 (a2_0)) 100))) + 1))))))) + (wrap64 (a1_3 * (Int.tmod (wrap64 (a2_1)) (wrap64 ((wrap64 (1 + (Int.tmod (wrap64 (a2_0)) 100))) + 1))))))) (wrap64 (a1_4 * (wrap64 (1 + (Int.tmod (wrap64 (a2_0)) 100))))) 0 a0_0 a0_1 l0_2))) = some r := by rw [if_neg (show ¬ (false = true) by decide)] at H; exact H
      clear H
      have H := H1
      clear H1
      by_cases c40 : t463 < (-1)
      · rw [if_pos c40] at H; exact absurd H (by simp)
      rw [if_neg c40] at H
      have c40b0 := decide_eq_false c40
      clear c40
      by_cases c41 : t463 ≥ (l0_2.length : Int)
      · rw [if_pos c41] at H; exact absurd H (by simp)
      rw [if_neg c41] at H
      have c41b0 := decide_eq_false c41
      clear c41
      have H' := Aside0.mk H
      clear H
      have hnb42 := NB450_451.out
      have hnc42 := NB451_450.out
      have hnb43 := NB450_452.out
      have hnc43 := NB452_450.out
      obtain ⟨hcz44_0, hcz44_1, hcz44_2, hfz44_0, hfz44_1, hfz44_2⟩ := kc3 BK450.out
      go_wp2
      repeat (go_quiet (fail); try go_wp2)
      go_loopg [15] kj17 (fun kq v15 w' => ∃ (x15_2 : Int), v15 = .int .i64 x15_2 ∧ Aside0 (dancestudiolaw42_StageClear.l0 kq t463 (wrap64 (1 + (Int.tmod (wrap64 (a2_0)) 100))) (wrap64 ((wrap64 (a1_0 * (wrap64 ((wrap64 (1 + (Int.tmod (wrap64 (a2_0)) 100))) - (Int.tmod (wrap64 (a2_1)) (wrap64 ((wrap64 (1 + (Int.tmod (wrap64 (a2_0)) 100))) + 1))))))) + (wrap64 (a1_2 * (Int.tmod (wrap64 (a2_1)) (wrap64 ((wrap64 (1 + (Int.tmod (wrap64 (a2_0)) 100))) + 1))))))) (wrap64 ((wrap64 (a1_1 * (wrap64 ((wrap64 (1 + (Int.tmod (wrap64 (a2_0)) 100))) - (Int.tmod (wrap64 (a2_1)) (wrap64 ((wrap64 (1 + (Int.tmod (wrap64 (a2_0)) 100))) + 1))))))) + (wrap64 (a1_3 * (Int.tmod (wrap64 (a2_1)) (wrap64 ((wrap64 (1 + (Int.tmod (wrap64 (a2_0)) 100))) + 1))))))) (wrap64 (a1_4 * (wrap64 (1 + (Int.tmod (wrap64 (a2_0)) 100))))) x15_2 a0_0 a0_1 l0_2 = some r) ∧ Aside0 (kq ≤ kj17) ∧ Aside0 (w'.heap[gb450]? = some (.cells #[.int .i64 a0_0, .int .i64 a0_1, (.slice A0_2 l0_2.length c0_2)] 24 (0, 0))) ∧ Aside0 (w'.heap[gb451]? = some (.cells #[.int .i64 a1_0, .int .i64 a1_1, .int .i64 a1_2, .int .i64 a1_3, .int .i64 a1_4] 35 (0, 0))) ∧ Aside0 (w'.heap[gb452]? = some (.cells #[.int .u8 a2_0, .int .u8 a2_1] 39 (0, 0))) ∧ Aside0 (Below w.heap.size w w'))
      case atStart => exact ⟨(0), (by first | rfl | (simp; done) | (simp [*]; done)), H', ⟨Nat.le_refl _⟩, ⟨by (with_reducible repeat first | apply kN | apply kD | apply kA); exact BK450.out⟩, ⟨by (with_reducible repeat first | apply kN | apply kD | apply kA); exact BK451.out⟩, ⟨by (with_reducible repeat first | apply kN | apply kD | apply kA); exact BK452.out⟩, ⟨by repeat with_reducible first | exact HB.out | apply bA | apply bN | apply bD | refine bS ?_ GE450.out | refine bS ?_ GE451.out | refine bS ?_ GE452.out⟩⟩
      case round =>
       clear H'
       try clear c1
       try clear c2
       try clear p2
       try clear c3
       try clear c4
       try clear c5
       try clear p6
       try clear c10
       try clear c11
       try clear c16
       try clear c16b0
       try clear c16b1
       try clear c17
       try clear c17b0
       try clear c17b1
       try clear c22
       try clear c23
       try clear c27
       try clear c32
       try clear c33
       try clear c33b0
       try clear c34
       try clear c34b0
       try clear c35
       try clear c35b0
       try clear c36
       try clear c37
       try clear c39
       try clear c40
       try clear c40b0
       try clear c41
       try clear c41b0
       try clear c42
       try clear c43
       try clear hcz12_0
       try clear hcz12_1
       try clear hcz12_2
       try clear hcz24_0
       try clear hcz24_1
       try clear hcz24_2
       try clear hcz26_0
       try clear hcz26_1
       try clear hcz26_2
       try clear hcz28_0
       try clear hcz28_1
       try clear hcz28_2
       try clear hcz28_3
       try clear hcz28_4
       try clear hcz30_0
       try clear hcz30_1
       try clear hcz31_0
       try clear hcz31_1
       try clear hcz31_2
       try clear hcz31_3
       try clear hcz31_4
       try clear hcz38_0
       try clear hcz38_1
       try clear hcz38_2
       try clear hcz44_0
       try clear hcz44_1
       try clear hcz44_2
       try clear hfz12_0
       try clear hfz12_1
       try clear hfz12_2
       try clear hfz24_0
       try clear hfz24_1
       try clear hfz24_2
       try clear hfz26_0
       try clear hfz26_1
       try clear hfz26_2
       try clear hfz28_0
       try clear hfz28_1
       try clear hfz28_2
       try clear hfz28_3
       try clear hfz28_4
       try clear hfz30_0
       try clear hfz30_1
       try clear hfz31_0
       try clear hfz31_1
       try clear hfz31_2
       try clear hfz31_3
       try clear hfz31_4
       try clear hfz38_0
       try clear hfz38_1
       try clear hfz38_2
       try clear hfz44_0
       try clear hfz44_1
       try clear hfz44_2
       try clear p2
       try clear p6
       obtain ⟨x15_2, rfl, HA, HK2, BK450, BK451, BK452, HB⟩ := hrel
       cases gk with
       | zero => exact absurd HA.out (by simp [dancestudiolaw42_StageClear.l0])
       | succ k2 =>
        have H := HA.out
        clear HA
        simp only [dancestudiolaw42_StageClear.l0] at H
        have HC45 := Aside0.mk H
        clear H
        go_upto_region 14 with (fail)
        repeat (go_quiet (fail); go_upto_region 14 with (fail))
        go_cut [143] (fun v143 wc => ∃ (kq : Nat) (x143_44 : Bool), v143 = .bool x143_44 ∧ Aside0 (dancestudiolaw42_StageClear.j2 kq t463 (wrap64 (1 + (Int.tmod (wrap64 (a2_0)) 100))) (wrap64 ((wrap64 (a1_0 * (wrap64 ((wrap64 (1 + (Int.tmod (wrap64 (a2_0)) 100))) - (Int.tmod (wrap64 (a2_1)) (wrap64 ((wrap64 (1 + (Int.tmod (wrap64 (a2_0)) 100))) + 1))))))) + (wrap64 (a1_2 * (Int.tmod (wrap64 (a2_1)) (wrap64 ((wrap64 (1 + (Int.tmod (wrap64 (a2_0)) 100))) + 1))))))) (wrap64 ((wrap64 (a1_1 * (wrap64 ((wrap64 (1 + (Int.tmod (wrap64 (a2_0)) 100))) - (Int.tmod (wrap64 (a2_1)) (wrap64 ((wrap64 (1 + (Int.tmod (wrap64 (a2_0)) 100))) + 1))))))) + (wrap64 (a1_3 * (Int.tmod (wrap64 (a2_1)) (wrap64 ((wrap64 (1 + (Int.tmod (wrap64 (a2_0)) 100))) + 1))))))) (wrap64 (a1_4 * (wrap64 (1 + (Int.tmod (wrap64 (a2_0)) 100))))) x15_2 x143_44 a0_0 a0_1 l0_2 = some r) ∧ Aside0 (kq ≤ k2) ∧ Aside0 (wc.heap[gb450]? = some (.cells #[.int .i64 a0_0, .int .i64 a0_1, (.slice A0_2 l0_2.length c0_2)] 24 (0, 0))) ∧ Aside0 (wc.heap[gb451]? = some (.cells #[.int .i64 a1_0, .int .i64 a1_1, .int .i64 a1_2, .int .i64 a1_3, .int .i64 a1_4] 35 (0, 0))) ∧ Aside0 (wc.heap[gb452]? = some (.cells #[.int .u8 a2_0, .int .u8 a2_1] 39 (0, 0))) ∧ Aside0 (Below w.heap.size w wc))
        case first =>
         have H := HC45.out
         clear HC45
         by_cases c46 : x15_2 < (l0_2.length : Int)
         ·
          rw [if_pos c46] at H
          have c46b0 := decide_eq_true c46
          clear c46
          (first | rw [c46b0] | (simp only [i64_w, i32_w]; rw [c46b0]) | skip)
          by_cases c47 : t463 < 0
          ·
           rw [if_pos c47] at H
           have c47b0 := decide_eq_true c47
           clear c47
           have H' := Aside0.mk H
           clear H
           have hnb48 := NB450_451.out
           have hnc48 := NB451_450.out
           have hnb49 := NB450_452.out
           have hnc49 := NB452_450.out
           obtain ⟨hcz50_0, hcz50_1, hcz50_2, hfz50_0, hfz50_1, hfz50_2⟩ := kc3 BK450.out
           go_wp2
           repeat (go_quiet (fail); try go_wp2)
           go_meet
           case rel => exact ⟨_, (true), (by first | rfl | (simp; done) | (simp [*]; done)), H', ⟨by have := HJ17.out; have := HK2.out; first | omega | exact Nat.le_refl _⟩, ⟨by (with_reducible repeat first | apply kN | apply kD | apply kA); exact BK450.out⟩, ⟨by (with_reducible repeat first | apply kN | apply kD | apply kA); exact BK451.out⟩, ⟨by (with_reducible repeat first | apply kN | apply kD | apply kA); exact BK452.out⟩, ⟨by repeat with_reducible first | exact HB.out | apply bA | apply bN | apply bD | refine bS ?_ GE450.out | refine bS ?_ GE451.out | refine bS ?_ GE452.out⟩⟩
          ·
           rw [if_neg c47] at H
           have c47b0 := decide_eq_false c47
           clear c47
           have H' := Aside0.mk H
           clear H
           have hnb51 := NB450_451.out
           have hnc51 := NB451_450.out
           have hnb52 := NB450_452.out
           have hnc52 := NB452_450.out
           obtain ⟨hcz53_0, hcz53_1, hcz53_2, hfz53_0, hfz53_1, hfz53_2⟩ := kc3 BK450.out
           go_wp2
           repeat (go_quiet (fail); try go_wp2)
           go_meet
           case rel => exact ⟨_, (decide (x15_2 < t463)), (by first | rfl | (simp; done) | (simp [*]; done)), H', ⟨by have := HJ17.out; have := HK2.out; first | omega | exact Nat.le_refl _⟩, ⟨by (with_reducible repeat first | apply kN | apply kD | apply kA); exact BK450.out⟩, ⟨by (with_reducible repeat first | apply kN | apply kD | apply kA); exact BK451.out⟩, ⟨by (with_reducible repeat first | apply kN | apply kD | apply kA); exact BK452.out⟩, ⟨by repeat with_reducible first | exact HB.out | apply bA | apply bN | apply bD | refine bS ?_ GE450.out | refine bS ?_ GE451.out | refine bS ?_ GE452.out⟩⟩
         ·
          rw [if_neg c46] at H
          have c46b0 := decide_eq_false c46
          clear c46
          (first | rw [c46b0] | (simp only [i64_w, i32_w]; rw [c46b0]) | skip)
          have H' := Aside0.mk H
          clear H
          have hnb54 := NB450_451.out
          have hnc54 := NB451_450.out
          have hnb55 := NB450_452.out
          have hnc55 := NB452_450.out
          obtain ⟨hcz56_0, hcz56_1, hcz56_2, hfz56_0, hfz56_1, hfz56_2⟩ := kc3 BK450.out
          go_wp2
          repeat (go_quiet (fail); try go_wp2)
          go_meet
          case rel => exact ⟨_, (false), (by first | rfl | (simp; done) | (simp [*]; done)), H', ⟨by have := HJ17.out; have := HK2.out; first | omega | exact Nat.le_refl _⟩, ⟨by (with_reducible repeat first | apply kN | apply kD | apply kA); exact BK450.out⟩, ⟨by (with_reducible repeat first | apply kN | apply kD | apply kA); exact BK451.out⟩, ⟨by (with_reducible repeat first | apply kN | apply kD | apply kA); exact BK452.out⟩, ⟨by repeat with_reducible first | exact HB.out | apply bA | apply bN | apply bD | refine bS ?_ GE450.out | refine bS ?_ GE451.out | refine bS ?_ GE452.out⟩⟩
        case rest =>
         clear HC45
         try clear c1
         try clear c2
         try clear p2
         try clear c3
         try clear c4
         try clear c5
         try clear p6
         try clear c10
         try clear c11
         try clear c16
         try clear c16b0
         try clear c16b1
         try clear c17
         try clear c17b0
         try clear c17b1
         try clear c22
         try clear c23
         try clear c27
         try clear c32
         try clear c33
         try clear c33b0
         try clear c34
         try clear c34b0
         try clear c35
         try clear c35b0
         try clear c36
         try clear c37
         try clear c39
         try clear c40
         try clear c40b0
         try clear c41
         try clear c41b0
         try clear c42
         try clear c43
         try clear c46
         try clear c46b0
         try clear c47
         try clear c47b0
         try clear c48
         try clear c49
         try clear c51
         try clear c52
         try clear c54
         try clear c55
         try clear hcz12_0
         try clear hcz12_1
         try clear hcz12_2
         try clear hcz24_0
         try clear hcz24_1
         try clear hcz24_2
         try clear hcz26_0
         try clear hcz26_1
         try clear hcz26_2
         try clear hcz28_0
         try clear hcz28_1
         try clear hcz28_2
         try clear hcz28_3
         try clear hcz28_4
         try clear hcz30_0
         try clear hcz30_1
         try clear hcz31_0
         try clear hcz31_1
         try clear hcz31_2
         try clear hcz31_3
         try clear hcz31_4
         try clear hcz38_0
         try clear hcz38_1
         try clear hcz38_2
         try clear hcz44_0
         try clear hcz44_1
         try clear hcz44_2
         try clear hcz50_0
         try clear hcz50_1
         try clear hcz50_2
         try clear hcz53_0
         try clear hcz53_1
         try clear hcz53_2
         try clear hcz56_0
         try clear hcz56_1
         try clear hcz56_2
         try clear hfz12_0
         try clear hfz12_1
         try clear hfz12_2
         try clear hfz24_0
         try clear hfz24_1
         try clear hfz24_2
         try clear hfz26_0
         try clear hfz26_1
         try clear hfz26_2
         try clear hfz28_0
         try clear hfz28_1
         try clear hfz28_2
         try clear hfz28_3
         try clear hfz28_4
         try clear hfz30_0
         try clear hfz30_1
         try clear hfz31_0
         try clear hfz31_1
         try clear hfz31_2
         try clear hfz31_3
         try clear hfz31_4
         try clear hfz38_0
         try clear hfz38_1
         try clear hfz38_2
         try clear hfz44_0
         try clear hfz44_1
         try clear hfz44_2
         try clear hfz50_0
         try clear hfz50_1
         try clear hfz50_2
         try clear hfz53_0
         try clear hfz53_1
         try clear hfz53_2
         try clear hfz56_0
         try clear hfz56_1
         try clear hfz56_2
         try clear p2
         try clear p6
         obtain ⟨kq, x143_44, rfl, HA, HJ44, BK450, BK451, BK452, HB⟩ := hcut
         cases kq with
         | zero => exact absurd HA.out (by simp [dancestudiolaw42_StageClear.j2])
         | succ kj44 =>
          have H := HA.out
          clear HA
          simp only [dancestudiolaw42_StageClear.j2] at H
          by_cases c57 : x143_44 = true
          ·
           subst c57
           have H1 : (if 0 ≤ x15_2 then (if x15_2 < (l0_2.length : Int) then (if (wrap64 ((wrap64 ((wrap64 ((wrap64 ((wrap64 (a1_0 * (wrap64 ((wrap64 (1 + (Int.tmod (wrap64 (a2_0)) 100))) - (Int.tmod (wrap64 (a2_1)) (wrap64 ((wrap64 (1 + (Int.tmod (wrap64 (a2_0)) 100))) + 1))))))) + (wrap64 (a1_2 * (Int.tmod (wrap64 (a2_1)) (wrap64 ((wrap64 (1 + (Int.tmod (wrap64 (a2_0)) 100))) + 1))))))) - (wrap64 (((rd_T41 l0_2 x15_2).f0.f0) * (wrap64 (1 + (Int.tmod (wrap64 (a2_0)) 100))))))) * (wrap64 ((wrap64 ((wrap64 (a1_0 * (wrap64 ((wrap64 (1 + (Int.tmod (wrap64 (a2_0)) 100))) - (Int.tmod (wrap64 (a2_1)) (wrap64 ((wrap64 (1 + (Int.tmod (wrap64 (a2_0)) 100))) + 1))))))) + (wrap64 (a1_2 * (Int.tmod (wrap64 (a2_1)) (wrap64 ((wrap64 (1 + (Int.tmod (wrap64 (a2_0)) 100))) + 1))))))) - (wrap64 (((rd_T41 l0_2 x15_2).f0.f0) * (wrap64 (1 + (Int.tmod (wrap64 (a2_0)) 100))))))))) + (wrap64 ((wrap64 ((wrap64 ((wrap64 (a1_1 * (wrap64 ((wrap64 (1 + (Int.tmod (wrap64 (a2_0)) 100))) - (Int.tmod (wrap64 (a2_1)) (wrap64 ((wrap64 (1 + (Int.tmod (wrap64 (a2_0)) 100))) + 1))))))) + (wrap64 (a1_3 * (Int.tmod (wrap64 (a2_1)) (wrap64 ((wrap64 (1 + (Int.tmod (wrap64 (a2_0)) 100))) + 1))))))) - (wrap64 (((rd_T41 l0_2 x15_2).f0.f1) * (wrap64 (1 + (Int.tmod (wrap64 (a2_0)) 100))))))) * (wrap64 ((wrap64 ((wrap64 (a1_1 * (wrap64 ((wrap64 (1 + (Int.tmod (wrap64 (a2_0)) 100))) - (Int.tmod (wrap64 (a2_1)) (wrap64 ((wrap64 (1 + (Int.tmod (wrap64 (a2_0)) 100))) + 1))))))) + (wrap64 (a1_3 * (Int.tmod (wrap64 (a2_1)) (wrap64 ((wrap64 (1 + (Int.tmod (wrap64 (a2_0)) 100))) + 1))))))) - (wrap64 (((rd_T41 l0_2 x15_2).f0.f1) * (wrap64 (1 + (Int.tmod (wrap64 (a2_0)) 100))))))))))) < (wrap64 ((wrap64 ((wrap64 (a1_4 * (wrap64 (1 + (Int.tmod (wrap64 (a2_0)) 100))))) + (wrap64 (((rd_T41 l0_2 x15_2).f1) * (wrap64 (1 + (Int.tmod (wrap64 (a2_0)) 100))))))) * (wrap64 ((wrap64 (a1_4 * (wrap64 (1 + (Int.tmod (wrap64 (a2_0)) 100))))) + (wrap64 (((rd_T41 l0_2 x15_2).f1) * (wrap64 (1 + (Int.tmod (wrap64 (a2_0)) 100))))))))) then (none) else (dancestudiolaw42_StageClear.l0 kj44 t463 (wrap64 (1 + (Int.tmod (wrap64 (a2_0)) 100))) (wrap64 ((wrap64 (a1_0 * (wrap64 ((wrap64 (1 + (Int.tmod (wrap64 (a2_0)) 100))) - (Int.tmod (wrap64 (a2_1)) (wrap64 ((wrap64 (1 + (Int.tmod (wrap64 (a2_0)) 100))) + 1))))))) + (wrap64 (a1_2 * (Int.tmod (wrap64 (a2_1)) (wrap64 ((wrap64 (1 + (Int.tmod (wrap64 (a2_0)) 100))) + 1))))))) (wrap64 ((wrap64 (a1_1 * (wrap64 ((wrap64 (1 + (Int.tmod (wrap64 (a2_0)) 100))) - (Int.tmod (wrap64 (a2_1)) (wrap64 ((wrap64 (1 + (Int.tmod (wrap64 (a2_0)) 100))) + 1))))))) + (wrap64 (a1_3 * (Int.tmod (wrap64 (a2_1)) (wrap64 ((wrap64 (1 + (Int.tmod (wrap64 (a2_0)) 100))) + 1))))))) (wrap64 (a1_4 * (wrap64 (1 + (Int.tmod (wrap64 (a2_0)) 100))))) (wrap64 (x15_2 + 1)) a0_0 a0_1 l0_2)) else (none)) else (none)) = some r := by rw [if_pos rfl] at H; exact H
           clear H
           have H := H1
           clear H1
           by_cases c58 : 0 ≤ x15_2; rotate_left
           · rw [if_neg c58] at H; exact absurd H (by simp)
           rw [if_pos c58] at H
           have c58b0 := decide_eq_true c58
           clear c58
           by_cases c59 : x15_2 < (l0_2.length : Int); rotate_left
           · rw [if_neg c59] at H; exact absurd H (by simp)
           rw [if_pos c59] at H
           have c59b0 := decide_eq_true c59
           clear c59
           by_cases c60 : (wrap64 ((wrap64 ((wrap64 ((wrap64 ((wrap64 (a1_0 * (wrap64 ((wrap64 (1 + (Int.tmod (wrap64 (a2_0)) 100))) - (Int.tmod (wrap64 (a2_1)) (wrap64 ((wrap64 (1 + (Int.tmod (wrap64 (a2_0)) 100))) + 1))))))) + (wrap64 (a1_2 * (Int.tmod (wrap64 (a2_1)) (wrap64 ((wrap64 (1 + (Int.tmod (wrap64 (a2_0)) 100))) + 1))))))) - (wrap64 (((rd_T41 l0_2 x15_2).f0.f0) * (wrap64 (1 + (Int.tmod (wrap64 (a2_0)) 100))))))) * (wrap64 ((wrap64 ((wrap64 (a1_0 * (wrap64 ((wrap64 (1 + (Int.tmod (wrap64 (a2_0)) 100))) - (Int.tmod (wrap64 (a2_1)) (wrap64 ((wrap64 (1 + (Int.tmod (wrap64 (a2_0)) 100))) + 1))))))) + (wrap64 (a1_2 * (Int.tmod (wrap64 (a2_1)) (wrap64 ((wrap64 (1 + (Int.tmod (wrap64 (a2_0)) 100))) + 1))))))) - (wrap64 (((rd_T41 l0_2 x15_2).f0.f0) * (wrap64 (1 + (Int.tmod (wrap64 (a2_0)) 100))))))))) + (wrap64 ((wrap64 ((wrap64 ((wrap64 (a1_1 * (wrap64 ((wrap64 (1 + (Int.tmod (wrap64 (a2_0)) 100))) - (Int.tmod (wrap64 (a2_1)) (wrap64 ((wrap64 (1 + (Int.tmod (wrap64 (a2_0)) 100))) + 1))))))) + (wrap64 (a1_3 * (Int.tmod (wrap64 (a2_1)) (wrap64 ((wrap64 (1 + (Int.tmod (wrap64 (a2_0)) 100))) + 1))))))) - (wrap64 (((rd_T41 l0_2 x15_2).f0.f1) * (wrap64 (1 + (Int.tmod (wrap64 (a2_0)) 100))))))) * (wrap64 ((wrap64 ((wrap64 (a1_1 * (wrap64 ((wrap64 (1 + (Int.tmod (wrap64 (a2_0)) 100))) - (Int.tmod (wrap64 (a2_1)) (wrap64 ((wrap64 (1 + (Int.tmod (wrap64 (a2_0)) 100))) + 1))))))) + (wrap64 (a1_3 * (Int.tmod (wrap64 (a2_1)) (wrap64 ((wrap64 (1 + (Int.tmod (wrap64 (a2_0)) 100))) + 1))))))) - (wrap64 (((rd_T41 l0_2 x15_2).f0.f1) * (wrap64 (1 + (Int.tmod (wrap64 (a2_0)) 100))))))))))) < (wrap64 ((wrap64 ((wrap64 (a1_4 * (wrap64 (1 + (Int.tmod (wrap64 (a2_0)) 100))))) + (wrap64 (((rd_T41 l0_2 x15_2).f1) * (wrap64 (1 + (Int.tmod (wrap64 (a2_0)) 100))))))) * (wrap64 ((wrap64 (a1_4 * (wrap64 (1 + (Int.tmod (wrap64 (a2_0)) 100))))) + (wrap64 (((rd_T41 l0_2 x15_2).f1) * (wrap64 (1 + (Int.tmod (wrap64 (a2_0)) 100)))))))))
           · rw [if_pos c60] at H; exact absurd H (by simp)
           rw [if_neg c60] at H
           have c60b0 := decide_eq_false c60
           clear c60
           have H' := Aside0.mk H
           clear H
           have hnb61 := NB450_451.out
           have hnc61 := NB451_450.out
           have hnb62 := NB450_452.out
           have hnc62 := NB452_450.out
           obtain ⟨hcz63_0, hcz63_1, hcz63_2, hfz63_0, hfz63_1, hfz63_2⟩ := kc3 BK450.out
           have p475 : 0 ≤ (x15_2 : Int) := of_decide_eq_true (by first | (with_reducible assumption) | assumption)
           have q475 : x15_2 < (l0_2.length : Int) := of_decide_eq_true (by first | (with_reducible assumption) | assumption)
           obtain ⟨ad475, e475, hx475_0, hx475_1, hx475_2⟩ := at_T41 HR0_2.out x15_2 p475 q475
           cases e475
           replace hx475_0 := cb HB.out hx475_0
           replace hx475_1 := cb HB.out hx475_1
           replace hx475_2 := cb HB.out hx475_2
           replace p475 := eq_true p475
           replace q475 := eq_true q475
           go_wp2_with (first | ((with_reducible refine gate_dst (N := 16) rfl ?_); refine box_event ?hg (N := 16) ?hd (cs := #[.int .i64 0, .int .i64 0, .int .i64 0]) (t := 41) ?hr ?_; (case hd => rfl); (case hg => rfl); (case hr => first | (go_simp; done) | (go_simp; rfl)); intro gb476 hg w64 hbox hb; have BK476 := Aside0.mk (hbox); have GW476 := Aside0.mk ((by rw [hg]; exact (below_size (by repeat with_reducible first | exact HB.out | apply bA | apply bN | apply bD | refine bS ?_ GE450.out | refine bS ?_ GE451.out | refine bS ?_ GE452.out)) : w.heap.size ≤ gb476)); have GE476 := GW476; replace HB := Aside0.mk (below_step (by repeat with_reducible first | exact HB.out | apply bA | apply bN | apply bD | refine bS ?_ GE450.out | refine bS ?_ GE451.out | refine bS ?_ GE452.out) hb); have NB450_476 := Aside0.mk ((by rw [hg]; exact Nat.ne_of_lt (blk_lt (by with_reducible repeat first | exact BK450.out | apply kN | apply kD | apply kA)) : gb450 ≠ gb476)); have NB476_450 := Aside0.mk ((by rw [hg]; exact Nat.ne_of_gt (blk_lt (by with_reducible repeat first | exact BK450.out | apply kN | apply kD | apply kA)) : gb476 ≠ gb450)); replace BK450 := Aside0.mk (blk_below (o := .cells #[.int .i64 a0_0, .int .i64 a0_1, .slice (some ad475) l0_2.length c0_2] 24 (0, 0)) (by with_reducible repeat first | exact BK450.out | apply kN | apply kD | apply kA) hb); have NB451_476 := Aside0.mk ((by rw [hg]; exact Nat.ne_of_lt (blk_lt (by with_reducible repeat first | exact BK451.out | apply kN | apply kD | apply kA)) : gb451 ≠ gb476)); have NB476_451 := Aside0.mk ((by rw [hg]; exact Nat.ne_of_gt (blk_lt (by with_reducible repeat first | exact BK451.out | apply kN | apply kD | apply kA)) : gb476 ≠ gb451)); replace BK451 := Aside0.mk (blk_below (o := .cells #[.int .i64 a1_0, .int .i64 a1_1, .int .i64 a1_2, .int .i64 a1_3, .int .i64 a1_4] 35 (0, 0)) (by with_reducible repeat first | exact BK451.out | apply kN | apply kD | apply kA) hb); have NB452_476 := Aside0.mk ((by rw [hg]; exact Nat.ne_of_lt (blk_lt (by with_reducible repeat first | exact BK452.out | apply kN | apply kD | apply kA)) : gb452 ≠ gb476)); have NB476_452 := Aside0.mk ((by rw [hg]; exact Nat.ne_of_gt (blk_lt (by with_reducible repeat first | exact BK452.out | apply kN | apply kD | apply kA)) : gb476 ≠ gb452)); replace BK452 := Aside0.mk (blk_below (o := .cells #[.int .u8 a2_0, .int .u8 a2_1] 39 (0, 0)) (by with_reducible repeat first | exact BK452.out | apply kN | apply kD | apply kA) hb); clear hb hbox hg; have hnb65 := NB476_450.out; have hnc65 := NB450_476.out; have hnb66 := NB476_451.out; have hnc66 := NB451_476.out; have hnb67 := NB476_452.out; have hnc67 := NB452_476.out; obtain ⟨hcz68_0, hcz68_1, hcz68_2, hfz68_0, hfz68_1, hfz68_2⟩ := kc3 BK476.out))
           repeat (go_quiet (first | ((with_reducible refine gate_dst (N := 16) rfl ?_); refine box_event ?hg (N := 16) ?hd (cs := #[.int .i64 0, .int .i64 0, .int .i64 0]) (t := 41) ?hr ?_; (case hd => rfl); (case hg => rfl); (case hr => first | (go_simp; done) | (go_simp; rfl)); intro gb476 hg w64 hbox hb; have BK476 := Aside0.mk (hbox); have GW476 := Aside0.mk ((by rw [hg]; exact (below_size (by repeat with_reducible first | exact HB.out | apply bA | apply bN | apply bD | refine bS ?_ GE450.out | refine bS ?_ GE451.out | refine bS ?_ GE452.out)) : w.heap.size ≤ gb476)); have GE476 := GW476; replace HB := Aside0.mk (below_step (by repeat with_reducible first | exact HB.out | apply bA | apply bN | apply bD | refine bS ?_ GE450.out | refine bS ?_ GE451.out | refine bS ?_ GE452.out) hb); have NB450_476 := Aside0.mk ((by rw [hg]; exact Nat.ne_of_lt (blk_lt (by with_reducible repeat first | exact BK450.out | apply kN | apply kD | apply kA)) : gb450 ≠ gb476)); have NB476_450 := Aside0.mk ((by rw [hg]; exact Nat.ne_of_gt (blk_lt (by with_reducible repeat first | exact BK450.out | apply kN | apply kD | apply kA)) : gb476 ≠ gb450)); replace BK450 := Aside0.mk (blk_below (o := .cells #[.int .i64 a0_0, .int .i64 a0_1, .slice (some ad475) l0_2.length c0_2] 24 (0, 0)) (by with_reducible repeat first | exact BK450.out | apply kN | apply kD | apply kA) hb); have NB451_476 := Aside0.mk ((by rw [hg]; exact Nat.ne_of_lt (blk_lt (by with_reducible repeat first | exact BK451.out | apply kN | apply kD | apply kA)) : gb451 ≠ gb476)); have NB476_451 := Aside0.mk ((by rw [hg]; exact Nat.ne_of_gt (blk_lt (by with_reducible repeat first | exact BK451.out | apply kN | apply kD | apply kA)) : gb476 ≠ gb451)); replace BK451 := Aside0.mk (blk_below (o := .cells #[.int .i64 a1_0, .int .i64 a1_1, .int .i64 a1_2, .int .i64 a1_3, .int .i64 a1_4] 35 (0, 0)) (by with_reducible repeat first | exact BK451.out | apply kN | apply kD | apply kA) hb); have NB452_476 := Aside0.mk ((by rw [hg]; exact Nat.ne_of_lt (blk_lt (by with_reducible repeat first | exact BK452.out | apply kN | apply kD | apply kA)) : gb452 ≠ gb476)); have NB476_452 := Aside0.mk ((by rw [hg]; exact Nat.ne_of_gt (blk_lt (by with_reducible repeat first | exact BK452.out | apply kN | apply kD | apply kA)) : gb476 ≠ gb452)); replace BK452 := Aside0.mk (blk_below (o := .cells #[.int .u8 a2_0, .int .u8 a2_1] 39 (0, 0)) (by with_reducible repeat first | exact BK452.out | apply kN | apply kD | apply kA) hb); clear hb hbox hg; have hnb65 := NB476_450.out; have hnc65 := NB450_476.out; have hnb66 := NB476_451.out; have hnc66 := NB451_476.out; have hnb67 := NB476_452.out; have hnc67 := NB452_476.out; obtain ⟨hcz68_0, hcz68_1, hcz68_2, hfz68_0, hfz68_1, hfz68_2⟩ := kc3 BK476.out)); try go_wp2_with (first | ((with_reducible refine gate_dst (N := 16) rfl ?_); refine box_event ?hg (N := 16) ?hd (cs := #[.int .i64 0, .int .i64 0, .int .i64 0]) (t := 41) ?hr ?_; (case hd => rfl); (case hg => rfl); (case hr => first | (go_simp; done) | (go_simp; rfl)); intro gb476 hg w64 hbox hb; have BK476 := Aside0.mk (hbox); have GW476 := Aside0.mk ((by rw [hg]; exact (below_size (by repeat with_reducible first | exact HB.out | apply bA | apply bN | apply bD | refine bS ?_ GE450.out | refine bS ?_ GE451.out | refine bS ?_ GE452.out)) : w.heap.size ≤ gb476)); have GE476 := GW476; replace HB := Aside0.mk (below_step (by repeat with_reducible first | exact HB.out | apply bA | apply bN | apply bD | refine bS ?_ GE450.out | refine bS ?_ GE451.out | refine bS ?_ GE452.out) hb); have NB450_476 := Aside0.mk ((by rw [hg]; exact Nat.ne_of_lt (blk_lt (by with_reducible repeat first | exact BK450.out | apply kN | apply kD | apply kA)) : gb450 ≠ gb476)); have NB476_450 := Aside0.mk ((by rw [hg]; exact Nat.ne_of_gt (blk_lt (by with_reducible repeat first | exact BK450.out | apply kN | apply kD | apply kA)) : gb476 ≠ gb450)); replace BK450 := Aside0.mk (blk_below (o := .cells #[.int .i64 a0_0, .int .i64 a0_1, .slice (some ad475) l0_2.length c0_2] 24 (0, 0)) (by with_reducible repeat first | exact BK450.out | apply kN | apply kD | apply kA) hb); have NB451_476 := Aside0.mk ((by rw [hg]; exact Nat.ne_of_lt (blk_lt (by with_reducible repeat first | exact BK451.out | apply kN | apply kD | apply kA)) : gb451 ≠ gb476)); have NB476_451 := Aside0.mk ((by rw [hg]; exact Nat.ne_of_gt (blk_lt (by with_reducible repeat first | exact BK451.out | apply kN | apply kD | apply kA)) : gb476 ≠ gb451)); replace BK451 := Aside0.mk (blk_below (o := .cells #[.int .i64 a1_0, .int .i64 a1_1, .int .i64 a1_2, .int .i64 a1_3, .int .i64 a1_4] 35 (0, 0)) (by with_reducible repeat first | exact BK451.out | apply kN | apply kD | apply kA) hb); have NB452_476 := Aside0.mk ((by rw [hg]; exact Nat.ne_of_lt (blk_lt (by with_reducible repeat first | exact BK452.out | apply kN | apply kD | apply kA)) : gb452 ≠ gb476)); have NB476_452 := Aside0.mk ((by rw [hg]; exact Nat.ne_of_gt (blk_lt (by with_reducible repeat first | exact BK452.out | apply kN | apply kD | apply kA)) : gb476 ≠ gb452)); replace BK452 := Aside0.mk (blk_below (o := .cells #[.int .u8 a2_0, .int .u8 a2_1] 39 (0, 0)) (by with_reducible repeat first | exact BK452.out | apply kN | apply kD | apply kA) hb); clear hb hbox hg; have hnb65 := NB476_450.out; have hnc65 := NB450_476.out; have hnb66 := NB476_451.out; have hnc66 := NB451_476.out; have hnb67 := NB476_452.out; have hnc67 := NB452_476.out; obtain ⟨hcz68_0, hcz68_1, hcz68_2, hfz68_0, hfz68_1, hfz68_2⟩ := kc3 BK476.out)))
           go_roundg kj44
           case measure => have := HJ17.out; have := HK2.out; have := HJ44.out; omega
           case rel => exact ⟨(wrap64 (x15_2 + 1)), (by first | rfl | (simp; done) | (simp [*]; done)), H', ⟨by have := HJ17.out; have := HK2.out; have := HJ44.out; omega⟩, ⟨by (with_reducible repeat first | apply kN | apply kD | apply kA); refine blk_far ?_ NB450_476.out _; (with_reducible repeat first | apply kN | apply kD | apply kA); refine blk_far ?_ NB450_476.out _; (with_reducible repeat first | apply kN | apply kD | apply kA); refine blk_far ?_ NB450_476.out _; (with_reducible repeat first | apply kN | apply kD | apply kA); exact BK450.out⟩, ⟨by (with_reducible repeat first | apply kN | apply kD | apply kA); refine blk_far ?_ NB451_476.out _; (with_reducible repeat first | apply kN | apply kD | apply kA); refine blk_far ?_ NB451_476.out _; (with_reducible repeat first | apply kN | apply kD | apply kA); refine blk_far ?_ NB451_476.out _; (with_reducible repeat first | apply kN | apply kD | apply kA); exact BK451.out⟩, ⟨by (with_reducible repeat first | apply kN | apply kD | apply kA); refine blk_far ?_ NB452_476.out _; (with_reducible repeat first | apply kN | apply kD | apply kA); refine blk_far ?_ NB452_476.out _; (with_reducible repeat first | apply kN | apply kD | apply kA); refine blk_far ?_ NB452_476.out _; (with_reducible repeat first | apply kN | apply kD | apply kA); exact BK452.out⟩, ⟨by repeat with_reducible first | exact HB.out | apply bA | apply bN | apply bD | refine bS ?_ GE450.out | refine bS ?_ GE451.out | refine bS ?_ GE452.out | refine bS ?_ GE476.out⟩⟩
          ·
           replace c57 := Bool.eq_false_iff.mpr c57
           subst c57
           have H1 : ((dancestudiolaw42_awake.f kj44).bind fun t477 => (some t477)) = some r := by rw [if_neg (show ¬ (false = true) by decide)] at H; exact H
           clear H
           have H := H1
           clear H1
           replace H := Option.bind_eq_some_iff.mp H
           obtain ⟨t477, A690, H⟩ := H
           replace H : (some t477) = some r := H
           have A69 := Aside0.mk A690
           clear A690
           obtain rfl := Option.some.inj H
           go_wp2_with (first | (go_at_call 11; (with_reducible refine (dancestudiolaw42_awake.calls kj44  t477 _ A69.out).mono ?_); rintro e w70 ⟨rfl, hb⟩; replace BK450 := Aside0.mk (blk_below (o := .cells #[.int .i64 a0_0, .int .i64 a0_1, .slice A0_2 l0_2.length c0_2] 24 (0, 0)) (by with_reducible repeat first | exact BK450.out | apply kN | apply kD | apply kA) hb); replace BK451 := Aside0.mk (blk_below (o := .cells #[.int .i64 a1_0, .int .i64 a1_1, .int .i64 a1_2, .int .i64 a1_3, .int .i64 a1_4] 35 (0, 0)) (by with_reducible repeat first | exact BK451.out | apply kN | apply kD | apply kA) hb); replace BK452 := Aside0.mk (blk_below (o := .cells #[.int .u8 a2_0, .int .u8 a2_1] 39 (0, 0)) (by with_reducible repeat first | exact BK452.out | apply kN | apply kD | apply kA) hb); replace HB := Aside0.mk (below_step (by repeat with_reducible first | exact HB.out | apply bA | apply bN | apply bD | refine bS ?_ GE450.out | refine bS ?_ GE451.out | refine bS ?_ GE452.out) hb); (try clear hb); (try clear hb2); (try clear hk); (try clear hi)))
           repeat (go_quiet (first | (go_at_call 11; (with_reducible refine (dancestudiolaw42_awake.calls kj44  t477 _ A69.out).mono ?_); rintro e w70 ⟨rfl, hb⟩; replace BK450 := Aside0.mk (blk_below (o := .cells #[.int .i64 a0_0, .int .i64 a0_1, .slice A0_2 l0_2.length c0_2] 24 (0, 0)) (by with_reducible repeat first | exact BK450.out | apply kN | apply kD | apply kA) hb); replace BK451 := Aside0.mk (blk_below (o := .cells #[.int .i64 a1_0, .int .i64 a1_1, .int .i64 a1_2, .int .i64 a1_3, .int .i64 a1_4] 35 (0, 0)) (by with_reducible repeat first | exact BK451.out | apply kN | apply kD | apply kA) hb); replace BK452 := Aside0.mk (blk_below (o := .cells #[.int .u8 a2_0, .int .u8 a2_1] 39 (0, 0)) (by with_reducible repeat first | exact BK452.out | apply kN | apply kD | apply kA) hb); replace HB := Aside0.mk (below_step (by repeat with_reducible first | exact HB.out | apply bA | apply bN | apply bD | refine bS ?_ GE450.out | refine bS ?_ GE451.out | refine bS ?_ GE452.out) hb); (try clear hb); (try clear hb2); (try clear hk); (try clear hi))); try go_wp2_with (first | (go_at_call 11; (with_reducible refine (dancestudiolaw42_awake.calls kj44  t477 _ A69.out).mono ?_); rintro e w70 ⟨rfl, hb⟩; replace BK450 := Aside0.mk (blk_below (o := .cells #[.int .i64 a0_0, .int .i64 a0_1, .slice A0_2 l0_2.length c0_2] 24 (0, 0)) (by with_reducible repeat first | exact BK450.out | apply kN | apply kD | apply kA) hb); replace BK451 := Aside0.mk (blk_below (o := .cells #[.int .i64 a1_0, .int .i64 a1_1, .int .i64 a1_2, .int .i64 a1_3, .int .i64 a1_4] 35 (0, 0)) (by with_reducible repeat first | exact BK451.out | apply kN | apply kD | apply kA) hb); replace BK452 := Aside0.mk (blk_below (o := .cells #[.int .u8 a2_0, .int .u8 a2_1] 39 (0, 0)) (by with_reducible repeat first | exact BK452.out | apply kN | apply kD | apply kA) hb); replace HB := Aside0.mk (below_step (by repeat with_reducible first | exact HB.out | apply bA | apply bN | apply bD | refine bS ?_ GE450.out | refine bS ?_ GE451.out | refine bS ?_ GE452.out) hb); (try clear hb); (try clear hb2); (try clear hk); (try clear hi))))
           go_ret
           exact ⟨by first | rfl | (simp [errW_none, errW_some] <;> rfl) | (simp [*, errW_none, errW_some] <;> rfl), by repeat with_reducible first | exact HB.out | apply bA | apply bN | apply bD | refine bS ?_ GE450.out | refine bS ?_ GE451.out | refine bS ?_ GE452.out⟩
  ·
   rw [if_neg c16] at H
   have c16b0 : (t464 == 0) = false := beq_eq_false_iff_ne.mpr c16
   have c16b1 : (t464 != 0) = true := bne_iff_ne.mpr c16
   by_cases c71 : t462 = true
   ·
    subst c71
    have H1 : (none) = some r := by rw [if_pos rfl] at H; exact H
    clear H
    have H := H1
    clear H1
    exact absurd H (by simp)
   ·
    replace c71 := Bool.eq_false_iff.mpr c71
    subst c71
    have H1 : (if t463 = 0 then ((dancestudiolaw42_awake.f k).bind fun t465 => (some t465)) else (none)) = some r := by rw [if_neg (show ¬ (false = true) by decide)] at H; exact H
    clear H
    have H := H1
    clear H1
    by_cases c72 : t463 = 0
    ·
     rw [if_pos c72] at H
     have c72b0 : (t463 == 0) = true := beq_iff_eq.mpr c72
     have c72b1 : (t463 != 0) = false := bne_eq_false_iff_eq.mpr c72
     clear c72
     replace H := Option.bind_eq_some_iff.mp H
     obtain ⟨t465, A730, H⟩ := H
     replace H : (some t465) = some r := H
     have A73 := Aside0.mk A730
     clear A730
     obtain rfl := Option.some.inj H
     go_enter Try.func5, Try.ntmps5
     go_wp2_with (first | ((with_reducible refine gate_dst (N := 3) rfl ?_); refine box_event ?hg (N := 3) ?hd (cs := #[.int .i64 a0_0, .int .i64 a0_1, .slice A0_2 l0_2.length c0_2]) (t := 24) ?hr ?_; (case hd => rfl); (case hg => rfl); (case hr => first | (go_simp; done) | (go_simp; rfl)); intro gb450 hg w74 hbox hb; have BK450 := Aside0.mk (hbox); have GW450 := Aside0.mk ((by rw [hg]; exact (below_size (by repeat with_reducible first | exact HB.out | apply bA | apply bN | apply bD)) : w.heap.size ≤ gb450)); have GE450 := GW450; replace HB := Aside0.mk (below_step (by repeat with_reducible first | exact HB.out | apply bA | apply bN | apply bD) hb); clear hb hbox hg) | ((with_reducible refine gate_dst (N := 4) rfl ?_); refine box_event ?hg (N := 4) ?hd (cs := #[.int .i64 a1_0, .int .i64 a1_1, .int .i64 a1_2, .int .i64 a1_3, .int .i64 a1_4]) (t := 35) ?hr ?_; (case hd => rfl); (case hg => rfl); (case hr => first | (go_simp; done) | (go_simp; rfl)); intro gb451 hg w75 hbox hb; have BK451 := Aside0.mk (hbox); have GW451 := Aside0.mk ((by rw [hg]; exact (below_size (by repeat with_reducible first | exact HB.out | apply bA | apply bN | apply bD | refine bS ?_ GE450.out)) : w.heap.size ≤ gb451)); have GE451 := GW451; replace HB := Aside0.mk (below_step (by repeat with_reducible first | exact HB.out | apply bA | apply bN | apply bD | refine bS ?_ GE450.out) hb); have NB450_451 := Aside0.mk ((by rw [hg]; exact Nat.ne_of_lt (blk_lt (by with_reducible repeat first | exact BK450.out | apply kN | apply kD | apply kA)) : gb450 ≠ gb451)); have NB451_450 := Aside0.mk ((by rw [hg]; exact Nat.ne_of_gt (blk_lt (by with_reducible repeat first | exact BK450.out | apply kN | apply kD | apply kA)) : gb451 ≠ gb450)); replace BK450 := Aside0.mk (blk_below (o := .cells #[.int .i64 a0_0, .int .i64 a0_1, .slice A0_2 l0_2.length c0_2] 24 (0, 0)) (by with_reducible repeat first | exact BK450.out | apply kN | apply kD | apply kA) hb); clear hb hbox hg) | ((with_reducible refine gate_dst (N := 5) rfl ?_); refine box_event ?hg (N := 5) ?hd (cs := #[.int .u8 a2_0, .int .u8 a2_1]) (t := 39) ?hr ?_; (case hd => rfl); (case hg => rfl); (case hr => first | (go_simp; done) | (go_simp; rfl)); intro gb452 hg w76 hbox hb; have BK452 := Aside0.mk (hbox); have GW452 := Aside0.mk ((by rw [hg]; exact (below_size (by repeat with_reducible first | exact HB.out | apply bA | apply bN | apply bD | refine bS ?_ GE450.out | refine bS ?_ GE451.out)) : w.heap.size ≤ gb452)); have GE452 := GW452; replace HB := Aside0.mk (below_step (by repeat with_reducible first | exact HB.out | apply bA | apply bN | apply bD | refine bS ?_ GE450.out | refine bS ?_ GE451.out) hb); have NB450_452 := Aside0.mk ((by rw [hg]; exact Nat.ne_of_lt (blk_lt (by with_reducible repeat first | exact BK450.out | apply kN | apply kD | apply kA)) : gb450 ≠ gb452)); have NB452_450 := Aside0.mk ((by rw [hg]; exact Nat.ne_of_gt (blk_lt (by with_reducible repeat first | exact BK450.out | apply kN | apply kD | apply kA)) : gb452 ≠ gb450)); replace BK450 := Aside0.mk (blk_below (o := .cells #[.int .i64 a0_0, .int .i64 a0_1, .slice A0_2 l0_2.length c0_2] 24 (0, 0)) (by with_reducible repeat first | exact BK450.out | apply kN | apply kD | apply kA) hb); have NB451_452 := Aside0.mk ((by rw [hg]; exact Nat.ne_of_lt (blk_lt (by with_reducible repeat first | exact BK451.out | apply kN | apply kD | apply kA)) : gb451 ≠ gb452)); have NB452_451 := Aside0.mk ((by rw [hg]; exact Nat.ne_of_gt (blk_lt (by with_reducible repeat first | exact BK451.out | apply kN | apply kD | apply kA)) : gb452 ≠ gb451)); replace BK451 := Aside0.mk (blk_below (o := .cells #[.int .i64 a1_0, .int .i64 a1_1, .int .i64 a1_2, .int .i64 a1_3, .int .i64 a1_4] 35 (0, 0)) (by with_reducible repeat first | exact BK451.out | apply kN | apply kD | apply kA) hb); clear hb hbox hg; have hnb77 := NB450_451.out; have hnc77 := NB451_450.out; have hnb78 := NB450_452.out; have hnc78 := NB452_450.out; obtain ⟨hcz79_0, hcz79_1, hcz79_2, hfz79_0, hfz79_1, hfz79_2⟩ := kc3 BK450.out) | (go_at_call 10; (with_reducible refine (dancestudiolaw42_great.calls a0_0 a0_1 _ _ l0_2 false _ ?side1 ?side2 A4.out).mono ?_); (case side1 => repeat (first | exact (Kd.C_below HR0_2.out HB.out) | (with_reducible first | apply cA | apply cN | apply cD))); (case side2 => exact HC0_2.out); rintro e w80 ⟨rfl, hb⟩; replace BK450 := Aside0.mk (blk_below (o := .cells #[.int .i64 a0_0, .int .i64 a0_1, .slice A0_2 l0_2.length c0_2] 24 (0, 0)) (by with_reducible repeat first | exact BK450.out | apply kN | apply kD | apply kA) hb); replace BK451 := Aside0.mk (blk_below (o := .cells #[.int .i64 a1_0, .int .i64 a1_1, .int .i64 a1_2, .int .i64 a1_3, .int .i64 a1_4] 35 (0, 0)) (by with_reducible repeat first | exact BK451.out | apply kN | apply kD | apply kA) hb); replace BK452 := Aside0.mk (blk_below (o := .cells #[.int .u8 a2_0, .int .u8 a2_1] 39 (0, 0)) (by with_reducible repeat first | exact BK452.out | apply kN | apply kD | apply kA) hb); replace HB := Aside0.mk (below_step (by repeat with_reducible first | exact HB.out | apply bA | apply bN | apply bD | refine bS ?_ GE450.out | refine bS ?_ GE451.out | refine bS ?_ GE452.out) hb); (try clear hb); (try clear hb2); (try clear hk); (try clear hi); obtain ⟨hcz81_0, hcz81_1, hcz81_2, hfz81_0, hfz81_1, hfz81_2⟩ := kc3 BK450.out; have hnb82 := NB451_452.out; have hnc82 := NB452_451.out; obtain ⟨hcz83_0, hcz83_1, hcz83_2, hcz83_3, hcz83_4, hfz83_0, hfz83_1, hfz83_2, hfz83_3, hfz83_4⟩ := kc5 BK451.out) | (go_at_call 16; (with_reducible refine (stage_Clear.calls k a0_0 a0_1 _ _ l0_2 a1_0 a1_1 a1_2 a1_3 a1_4 false t463 t464 _ ?side1 ?side2 A15.out).mono ?_); (case side1 => repeat (first | exact (Kd.C_below HR0_2.out HB.out) | (with_reducible first | apply cA | apply cN | apply cD))); (case side2 => exact HC0_2.out); rintro e w84 ⟨rfl, hb⟩; replace BK450 := Aside0.mk (blk_below (o := .cells #[.int .i64 a0_0, .int .i64 a0_1, .slice A0_2 l0_2.length c0_2] 24 (0, 0)) (by with_reducible repeat first | exact BK450.out | apply kN | apply kD | apply kA) hb); replace BK451 := Aside0.mk (blk_below (o := .cells #[.int .i64 a1_0, .int .i64 a1_1, .int .i64 a1_2, .int .i64 a1_3, .int .i64 a1_4] 35 (0, 0)) (by with_reducible repeat first | exact BK451.out | apply kN | apply kD | apply kA) hb); replace BK452 := Aside0.mk (blk_below (o := .cells #[.int .u8 a2_0, .int .u8 a2_1] 39 (0, 0)) (by with_reducible repeat first | exact BK452.out | apply kN | apply kD | apply kA) hb); replace HB := Aside0.mk (below_step (by repeat with_reducible first | exact HB.out | apply bA | apply bN | apply bD | refine bS ?_ GE450.out | refine bS ?_ GE451.out | refine bS ?_ GE452.out) hb); (try clear hb); (try clear hb2); (try clear hk); (try clear hi)) | (go_at_call 11; (with_reducible refine (dancestudiolaw42_awake.calls k  t465 _ A73.out).mono ?_); rintro e w85 ⟨rfl, hb⟩; replace BK450 := Aside0.mk (blk_below (o := .cells #[.int .i64 a0_0, .int .i64 a0_1, .slice A0_2 l0_2.length c0_2] 24 (0, 0)) (by with_reducible repeat first | exact BK450.out | apply kN | apply kD | apply kA) hb); replace BK451 := Aside0.mk (blk_below (o := .cells #[.int .i64 a1_0, .int .i64 a1_1, .int .i64 a1_2, .int .i64 a1_3, .int .i64 a1_4] 35 (0, 0)) (by with_reducible repeat first | exact BK451.out | apply kN | apply kD | apply kA) hb); replace BK452 := Aside0.mk (blk_below (o := .cells #[.int .u8 a2_0, .int .u8 a2_1] 39 (0, 0)) (by with_reducible repeat first | exact BK452.out | apply kN | apply kD | apply kA) hb); replace HB := Aside0.mk (below_step (by repeat with_reducible first | exact HB.out | apply bA | apply bN | apply bD | refine bS ?_ GE450.out | refine bS ?_ GE451.out | refine bS ?_ GE452.out) hb); (try clear hb); (try clear hb2); (try clear hk); (try clear hi)))
     repeat (go_quiet (first | ((with_reducible refine gate_dst (N := 3) rfl ?_); refine box_event ?hg (N := 3) ?hd (cs := #[.int .i64 a0_0, .int .i64 a0_1, .slice A0_2 l0_2.length c0_2]) (t := 24) ?hr ?_; (case hd => rfl); (case hg => rfl); (case hr => first | (go_simp; done) | (go_simp; rfl)); intro gb450 hg w74 hbox hb; have BK450 := Aside0.mk (hbox); have GW450 := Aside0.mk ((by rw [hg]; exact (below_size (by repeat with_reducible first | exact HB.out | apply bA | apply bN | apply bD)) : w.heap.size ≤ gb450)); have GE450 := GW450; replace HB := Aside0.mk (below_step (by repeat with_reducible first | exact HB.out | apply bA | apply bN | apply bD) hb); clear hb hbox hg) | ((with_reducible refine gate_dst (N := 4) rfl ?_); refine box_event ?hg (N := 4) ?hd (cs := #[.int .i64 a1_0, .int .i64 a1_1, .int .i64 a1_2, .int .i64 a1_3, .int .i64 a1_4]) (t := 35) ?hr ?_; (case hd => rfl); (case hg => rfl); (case hr => first | (go_simp; done) | (go_simp; rfl)); intro gb451 hg w75 hbox hb; have BK451 := Aside0.mk (hbox); have GW451 := Aside0.mk ((by rw [hg]; exact (below_size (by repeat with_reducible first | exact HB.out | apply bA | apply bN | apply bD | refine bS ?_ GE450.out)) : w.heap.size ≤ gb451)); have GE451 := GW451; replace HB := Aside0.mk (below_step (by repeat with_reducible first | exact HB.out | apply bA | apply bN | apply bD | refine bS ?_ GE450.out) hb); have NB450_451 := Aside0.mk ((by rw [hg]; exact Nat.ne_of_lt (blk_lt (by with_reducible repeat first | exact BK450.out | apply kN | apply kD | apply kA)) : gb450 ≠ gb451)); have NB451_450 := Aside0.mk ((by rw [hg]; exact Nat.ne_of_gt (blk_lt (by with_reducible repeat first | exact BK450.out | apply kN | apply kD | apply kA)) : gb451 ≠ gb450)); replace BK450 := Aside0.mk (blk_below (o := .cells #[.int .i64 a0_0, .int .i64 a0_1, .slice A0_2 l0_2.length c0_2] 24 (0, 0)) (by with_reducible repeat first | exact BK450.out | apply kN | apply kD | apply kA) hb); clear hb hbox hg) | ((with_reducible refine gate_dst (N := 5) rfl ?_); refine box_event ?hg (N := 5) ?hd (cs := #[.int .u8 a2_0, .int .u8 a2_1]) (t := 39) ?hr ?_; (case hd => rfl); (case hg => rfl); (case hr => first | (go_simp; done) | (go_simp; rfl)); intro gb452 hg w76 hbox hb; have BK452 := Aside0.mk (hbox); have GW452 := Aside0.mk ((by rw [hg]; exact (below_size (by repeat with_reducible first | exact HB.out | apply bA | apply bN | apply bD | refine bS ?_ GE450.out | refine bS ?_ GE451.out)) : w.heap.size ≤ gb452)); have GE452 := GW452; replace HB := Aside0.mk (below_step (by repeat with_reducible first | exact HB.out | apply bA | apply bN | apply bD | refine bS ?_ GE450.out | refine bS ?_ GE451.out) hb); have NB450_452 := Aside0.mk ((by rw [hg]; exact Nat.ne_of_lt (blk_lt (by with_reducible repeat first | exact BK450.out | apply kN | apply kD | apply kA)) : gb450 ≠ gb452)); have NB452_450 := Aside0.mk ((by rw [hg]; exact Nat.ne_of_gt (blk_lt (by with_reducible repeat first | exact BK450.out | apply kN | apply kD | apply kA)) : gb452 ≠ gb450)); replace BK450 := Aside0.mk (blk_below (o := .cells #[.int .i64 a0_0, .int .i64 a0_1, .slice A0_2 l0_2.length c0_2] 24 (0, 0)) (by with_reducible repeat first | exact BK450.out | apply kN | apply kD | apply kA) hb); have NB451_452 := Aside0.mk ((by rw [hg]; exact Nat.ne_of_lt (blk_lt (by with_reducible repeat first | exact BK451.out | apply kN | apply kD | apply kA)) : gb451 ≠ gb452)); have NB452_451 := Aside0.mk ((by rw [hg]; exact Nat.ne_of_gt (blk_lt (by with_reducible repeat first | exact BK451.out | apply kN | apply kD | apply kA)) : gb452 ≠ gb451)); replace BK451 := Aside0.mk (blk_below (o := .cells #[.int .i64 a1_0, .int .i64 a1_1, .int .i64 a1_2, .int .i64 a1_3, .int .i64 a1_4] 35 (0, 0)) (by with_reducible repeat first | exact BK451.out | apply kN | apply kD | apply kA) hb); clear hb hbox hg; have hnb77 := NB450_451.out; have hnc77 := NB451_450.out; have hnb78 := NB450_452.out; have hnc78 := NB452_450.out; obtain ⟨hcz79_0, hcz79_1, hcz79_2, hfz79_0, hfz79_1, hfz79_2⟩ := kc3 BK450.out) | (go_at_call 10; (with_reducible refine (dancestudiolaw42_great.calls a0_0 a0_1 _ _ l0_2 false _ ?side1 ?side2 A4.out).mono ?_); (case side1 => repeat (first | exact (Kd.C_below HR0_2.out HB.out) | (with_reducible first | apply cA | apply cN | apply cD))); (case side2 => exact HC0_2.out); rintro e w80 ⟨rfl, hb⟩; replace BK450 := Aside0.mk (blk_below (o := .cells #[.int .i64 a0_0, .int .i64 a0_1, .slice A0_2 l0_2.length c0_2] 24 (0, 0)) (by with_reducible repeat first | exact BK450.out | apply kN | apply kD | apply kA) hb); replace BK451 := Aside0.mk (blk_below (o := .cells #[.int .i64 a1_0, .int .i64 a1_1, .int .i64 a1_2, .int .i64 a1_3, .int .i64 a1_4] 35 (0, 0)) (by with_reducible repeat first | exact BK451.out | apply kN | apply kD | apply kA) hb); replace BK452 := Aside0.mk (blk_below (o := .cells #[.int .u8 a2_0, .int .u8 a2_1] 39 (0, 0)) (by with_reducible repeat first | exact BK452.out | apply kN | apply kD | apply kA) hb); replace HB := Aside0.mk (below_step (by repeat with_reducible first | exact HB.out | apply bA | apply bN | apply bD | refine bS ?_ GE450.out | refine bS ?_ GE451.out | refine bS ?_ GE452.out) hb); (try clear hb); (try clear hb2); (try clear hk); (try clear hi); obtain ⟨hcz81_0, hcz81_1, hcz81_2, hfz81_0, hfz81_1, hfz81_2⟩ := kc3 BK450.out; have hnb82 := NB451_452.out; have hnc82 := NB452_451.out; obtain ⟨hcz83_0, hcz83_1, hcz83_2, hcz83_3, hcz83_4, hfz83_0, hfz83_1, hfz83_2, hfz83_3, hfz83_4⟩ := kc5 BK451.out) | (go_at_call 16; (with_reducible refine (stage_Clear.calls k a0_0 a0_1 _ _ l0_2 a1_0 a1_1 a1_2 a1_3 a1_4 false t463 t464 _ ?side1 ?side2 A15.out).mono ?_); (case side1 => repeat (first | exact (Kd.C_below HR0_2.out HB.out) | (with_reducible first | apply cA | apply cN | apply cD))); (case side2 => exact HC0_2.out); rintro e w84 ⟨rfl, hb⟩; replace BK450 := Aside0.mk (blk_below (o := .cells #[.int .i64 a0_0, .int .i64 a0_1, .slice A0_2 l0_2.length c0_2] 24 (0, 0)) (by with_reducible repeat first | exact BK450.out | apply kN | apply kD | apply kA) hb); replace BK451 := Aside0.mk (blk_below (o := .cells #[.int .i64 a1_0, .int .i64 a1_1, .int .i64 a1_2, .int .i64 a1_3, .int .i64 a1_4] 35 (0, 0)) (by with_reducible repeat first | exact BK451.out | apply kN | apply kD | apply kA) hb); replace BK452 := Aside0.mk (blk_below (o := .cells #[.int .u8 a2_0, .int .u8 a2_1] 39 (0, 0)) (by with_reducible repeat first | exact BK452.out | apply kN | apply kD | apply kA) hb); replace HB := Aside0.mk (below_step (by repeat with_reducible first | exact HB.out | apply bA | apply bN | apply bD | refine bS ?_ GE450.out | refine bS ?_ GE451.out | refine bS ?_ GE452.out) hb); (try clear hb); (try clear hb2); (try clear hk); (try clear hi)) | (go_at_call 11; (with_reducible refine (dancestudiolaw42_awake.calls k  t465 _ A73.out).mono ?_); rintro e w85 ⟨rfl, hb⟩; replace BK450 := Aside0.mk (blk_below (o := .cells #[.int .i64 a0_0, .int .i64 a0_1, .slice A0_2 l0_2.length c0_2] 24 (0, 0)) (by with_reducible repeat first | exact BK450.out | apply kN | apply kD | apply kA) hb); replace BK451 := Aside0.mk (blk_below (o := .cells #[.int .i64 a1_0, .int .i64 a1_1, .int .i64 a1_2, .int .i64 a1_3, .int .i64 a1_4] 35 (0, 0)) (by with_reducible repeat first | exact BK451.out | apply kN | apply kD | apply kA) hb); replace BK452 := Aside0.mk (blk_below (o := .cells #[.int .u8 a2_0, .int .u8 a2_1] 39 (0, 0)) (by with_reducible repeat first | exact BK452.out | apply kN | apply kD | apply kA) hb); replace HB := Aside0.mk (below_step (by repeat with_reducible first | exact HB.out | apply bA | apply bN | apply bD | refine bS ?_ GE450.out | refine bS ?_ GE451.out | refine bS ?_ GE452.out) hb); (try clear hb); (try clear hb2); (try clear hk); (try clear hi))); try go_wp2_with (first | ((with_reducible refine gate_dst (N := 3) rfl ?_); refine box_event ?hg (N := 3) ?hd (cs := #[.int .i64 a0_0, .int .i64 a0_1, .slice A0_2 l0_2.length c0_2]) (t := 24) ?hr ?_; (case hd => rfl); (case hg => rfl); (case hr => first | (go_simp; done) | (go_simp; rfl)); intro gb450 hg w74 hbox hb; have BK450 := Aside0.mk (hbox); have GW450 := Aside0.mk ((by rw [hg]; exact (below_size (by repeat with_reducible first | exact HB.out | apply bA | apply bN | apply bD)) : w.heap.size ≤ gb450)); have GE450 := GW450; replace HB := Aside0.mk (below_step (by repeat with_reducible first | exact HB.out | apply bA | apply bN | apply bD) hb); clear hb hbox hg) | ((with_reducible refine gate_dst (N := 4) rfl ?_); refine box_event ?hg (N := 4) ?hd (cs := #[.int .i64 a1_0, .int .i64 a1_1, .int .i64 a1_2, .int .i64 a1_3, .int .i64 a1_4]) (t := 35) ?hr ?_; (case hd => rfl); (case hg => rfl); (case hr => first | (go_simp; done) | (go_simp; rfl)); intro gb451 hg w75 hbox hb; have BK451 := Aside0.mk (hbox); have GW451 := Aside0.mk ((by rw [hg]; exact (below_size (by repeat with_reducible first | exact HB.out | apply bA | apply bN | apply bD | refine bS ?_ GE450.out)) : w.heap.size ≤ gb451)); have GE451 := GW451; replace HB := Aside0.mk (below_step (by repeat with_reducible first | exact HB.out | apply bA | apply bN | apply bD | refine bS ?_ GE450.out) hb); have NB450_451 := Aside0.mk ((by rw [hg]; exact Nat.ne_of_lt (blk_lt (by with_reducible repeat first | exact BK450.out | apply kN | apply kD | apply kA)) : gb450 ≠ gb451)); have NB451_450 := Aside0.mk ((by rw [hg]; exact Nat.ne_of_gt (blk_lt (by with_reducible repeat first | exact BK450.out | apply kN | apply kD | apply kA)) : gb451 ≠ gb450)); replace BK450 := Aside0.mk (blk_below (o := .cells #[.int .i64 a0_0, .int .i64 a0_1, .slice A0_2 l0_2.length c0_2] 24 (0, 0)) (by with_reducible repeat first | exact BK450.out | apply kN | apply kD | apply kA) hb); clear hb hbox hg) | ((with_reducible refine gate_dst (N := 5) rfl ?_); refine box_event ?hg (N := 5) ?hd (cs := #[.int .u8 a2_0, .int .u8 a2_1]) (t := 39) ?hr ?_; (case hd => rfl); (case hg => rfl); (case hr => first | (go_simp; done) | (go_simp; rfl)); intro gb452 hg w76 hbox hb; have BK452 := Aside0.mk (hbox); have GW452 := Aside0.mk ((by rw [hg]; exact (below_size (by repeat with_reducible first | exact HB.out | apply bA | apply bN | apply bD | refine bS ?_ GE450.out | refine bS ?_ GE451.out)) : w.heap.size ≤ gb452)); have GE452 := GW452; replace HB := Aside0.mk (below_step (by repeat with_reducible first | exact HB.out | apply bA | apply bN | apply bD | refine bS ?_ GE450.out | refine bS ?_ GE451.out) hb); have NB450_452 := Aside0.mk ((by rw [hg]; exact Nat.ne_of_lt (blk_lt (by with_reducible repeat first | exact BK450.out | apply kN | apply kD | apply kA)) : gb450 ≠ gb452)); have NB452_450 := Aside0.mk ((by rw [hg]; exact Nat.ne_of_gt (blk_lt (by with_reducible repeat first | exact BK450.out | apply kN | apply kD | apply kA)) : gb452 ≠ gb450)); replace BK450 := Aside0.mk (blk_below (o := .cells #[.int .i64 a0_0, .int .i64 a0_1, .slice A0_2 l0_2.length c0_2] 24 (0, 0)) (by with_reducible repeat first | exact BK450.out | apply kN | apply kD | apply kA) hb); have NB451_452 := Aside0.mk ((by rw [hg]; exact Nat.ne_of_lt (blk_lt (by with_reducible repeat first | exact BK451.out | apply kN | apply kD | apply kA)) : gb451 ≠ gb452)); have NB452_451 := Aside0.mk ((by rw [hg]; exact Nat.ne_of_gt (blk_lt (by with_reducible repeat first | exact BK451.out | apply kN | apply kD | apply kA)) : gb452 ≠ gb451)); replace BK451 := Aside0.mk (blk_below (o := .cells #[.int .i64 a1_0, .int .i64 a1_1, .int .i64 a1_2, .int .i64 a1_3, .int .i64 a1_4] 35 (0, 0)) (by with_reducible repeat first | exact BK451.out | apply kN | apply kD | apply kA) hb); clear hb hbox hg; have hnb77 := NB450_451.out; have hnc77 := NB451_450.out; have hnb78 := NB450_452.out; have hnc78 := NB452_450.out; obtain ⟨hcz79_0, hcz79_1, hcz79_2, hfz79_0, hfz79_1, hfz79_2⟩ := kc3 BK450.out) | (go_at_call 10; (with_reducible refine (dancestudiolaw42_great.calls a0_0 a0_1 _ _ l0_2 false _ ?side1 ?side2 A4.out).mono ?_); (case side1 => repeat (first | exact (Kd.C_below HR0_2.out HB.out) | (with_reducible first | apply cA | apply cN | apply cD))); (case side2 => exact HC0_2.out); rintro e w80 ⟨rfl, hb⟩; replace BK450 := Aside0.mk (blk_below (o := .cells #[.int .i64 a0_0, .int .i64 a0_1, .slice A0_2 l0_2.length c0_2] 24 (0, 0)) (by with_reducible repeat first | exact BK450.out | apply kN | apply kD | apply kA) hb); replace BK451 := Aside0.mk (blk_below (o := .cells #[.int .i64 a1_0, .int .i64 a1_1, .int .i64 a1_2, .int .i64 a1_3, .int .i64 a1_4] 35 (0, 0)) (by with_reducible repeat first | exact BK451.out | apply kN | apply kD | apply kA) hb); replace BK452 := Aside0.mk (blk_below (o := .cells #[.int .u8 a2_0, .int .u8 a2_1] 39 (0, 0)) (by with_reducible repeat first | exact BK452.out | apply kN | apply kD | apply kA) hb); replace HB := Aside0.mk (below_step (by repeat with_reducible first | exact HB.out | apply bA | apply bN | apply bD | refine bS ?_ GE450.out | refine bS ?_ GE451.out | refine bS ?_ GE452.out) hb); (try clear hb); (try clear hb2); (try clear hk); (try clear hi); obtain ⟨hcz81_0, hcz81_1, hcz81_2, hfz81_0, hfz81_1, hfz81_2⟩ := kc3 BK450.out; have hnb82 := NB451_452.out; have hnc82 := NB452_451.out; obtain ⟨hcz83_0, hcz83_1, hcz83_2, hcz83_3, hcz83_4, hfz83_0, hfz83_1, hfz83_2, hfz83_3, hfz83_4⟩ := kc5 BK451.out) | (go_at_call 16; (with_reducible refine (stage_Clear.calls k a0_0 a0_1 _ _ l0_2 a1_0 a1_1 a1_2 a1_3 a1_4 false t463 t464 _ ?side1 ?side2 A15.out).mono ?_); (case side1 => repeat (first | exact (Kd.C_below HR0_2.out HB.out) | (with_reducible first | apply cA | apply cN | apply cD))); (case side2 => exact HC0_2.out); rintro e w84 ⟨rfl, hb⟩; replace BK450 := Aside0.mk (blk_below (o := .cells #[.int .i64 a0_0, .int .i64 a0_1, .slice A0_2 l0_2.length c0_2] 24 (0, 0)) (by with_reducible repeat first | exact BK450.out | apply kN | apply kD | apply kA) hb); replace BK451 := Aside0.mk (blk_below (o := .cells #[.int .i64 a1_0, .int .i64 a1_1, .int .i64 a1_2, .int .i64 a1_3, .int .i64 a1_4] 35 (0, 0)) (by with_reducible repeat first | exact BK451.out | apply kN | apply kD | apply kA) hb); replace BK452 := Aside0.mk (blk_below (o := .cells #[.int .u8 a2_0, .int .u8 a2_1] 39 (0, 0)) (by with_reducible repeat first | exact BK452.out | apply kN | apply kD | apply kA) hb); replace HB := Aside0.mk (below_step (by repeat with_reducible first | exact HB.out | apply bA | apply bN | apply bD | refine bS ?_ GE450.out | refine bS ?_ GE451.out | refine bS ?_ GE452.out) hb); (try clear hb); (try clear hb2); (try clear hk); (try clear hi)) | (go_at_call 11; (with_reducible refine (dancestudiolaw42_awake.calls k  t465 _ A73.out).mono ?_); rintro e w85 ⟨rfl, hb⟩; replace BK450 := Aside0.mk (blk_below (o := .cells #[.int .i64 a0_0, .int .i64 a0_1, .slice A0_2 l0_2.length c0_2] 24 (0, 0)) (by with_reducible repeat first | exact BK450.out | apply kN | apply kD | apply kA) hb); replace BK451 := Aside0.mk (blk_below (o := .cells #[.int .i64 a1_0, .int .i64 a1_1, .int .i64 a1_2, .int .i64 a1_3, .int .i64 a1_4] 35 (0, 0)) (by with_reducible repeat first | exact BK451.out | apply kN | apply kD | apply kA) hb); replace BK452 := Aside0.mk (blk_below (o := .cells #[.int .u8 a2_0, .int .u8 a2_1] 39 (0, 0)) (by with_reducible repeat first | exact BK452.out | apply kN | apply kD | apply kA) hb); replace HB := Aside0.mk (below_step (by repeat with_reducible first | exact HB.out | apply bA | apply bN | apply bD | refine bS ?_ GE450.out | refine bS ?_ GE451.out | refine bS ?_ GE452.out) hb); (try clear hb); (try clear hb2); (try clear hk); (try clear hi))))
     go_ret
     exact ⟨by first | rfl | (simp [errW_none, errW_some] <;> rfl) | (simp [*, errW_none, errW_some] <;> rfl), by repeat with_reducible first | exact HB.out | apply bA | apply bN | apply bD | refine bS ?_ GE450.out | refine bS ?_ GE451.out | refine bS ?_ GE452.out⟩
    ·
     rw [if_neg c72] at H
     exact absurd H (by simp)

end Go.Proofs.Ytmfcgmdecindnaa.X
