-- written by xprint.py, an own overlay over the kit's print; not trusted: Lean checks it
import Derived.Test.YthgngebcfggcfaaX0
import Derived.Test.YthgngebcfggcfaaX4
import Derived.Test.YthgngebcfggcfaaX19
import Derived.Test.YthgngebcfggcfaaX20
import Derived.Test.YthgngebcfggcfaaX21
import Derived.Test.YthgngebcfggcfaaX22
namespace Go.Proofs.Ythgngebcfggcfaa.X
open Go.RowKit Go.Proofs.YthgngebcfggcfaaW.PrintWords Go.Proofs.YthgngebcfggcfaaW.PrintLast Go.Proofs.YthgngebcfggcfaaW.PrintMore
attribute [local go_sem] max2_int min2_int max_two min_two max_three min_three max_four min_four   -- for this text's walks alone
set_option linter.unusedVariables false
set_option linter.unusedSimpArgs false

/-! ### dancestudiolaw14_TempoInverse: function 8 -/
mutual
def dancestudiolaw14_TempoInverse.j0 : Nat → List (S38) → Int → Int → Bool → Option (Bool)
 | 0, _, _, _, _ => none
 | k + 1, x0, x1, x2, x25 => if x25 = true then ((dancestudiolaw14_awake.f k).bind fun t304 => (some t304)) else ((tempo_When.f k x0 x1).bind fun bt305 => ((tempo_When.f k x0 (wrap64 (x1 + 1))).bind fun bt307 => ((tempo_When.f k x0 8192).bind fun bt309 => (if bt305.2 = 0 then (if bt307.2 = 0 then (if bt309.2 = 0 then (if bt305.1 < 0 then (dancestudiolaw14_TempoInverse.j1 k x0 x1 x2 bt305.1 bt307.1 bt309.1 true) else (if bt307.1 ≤ bt305.1 then (dancestudiolaw14_TempoInverse.j1 k x0 x1 x2 bt305.1 bt307.1 bt309.1 true) else (if bt307.1 > bt309.1 then (dancestudiolaw14_TempoInverse.j1 k x0 x1 x2 bt305.1 bt307.1 bt309.1 true) else (dancestudiolaw14_TempoInverse.j1 k x0 x1 x2 bt305.1 bt307.1 bt309.1 (decide ((wrap64 (bt307.1 - bt305.1)) > 4194304)))))) else (dancestudiolaw14_TempoInverse.j1 k x0 x1 x2 bt305.1 bt307.1 bt309.1 true)) else (dancestudiolaw14_TempoInverse.j1 k x0 x1 x2 bt305.1 bt307.1 bt309.1 true)) else (dancestudiolaw14_TempoInverse.j1 k x0 x1 x2 bt305.1 bt307.1 bt309.1 true)))))
def dancestudiolaw14_TempoInverse.j1 : Nat → List (S38) → Int → Int → Int → Int → Int → Bool → Option (Bool)
 | 0, _, _, _, _, _, _, _ => none
 | k + 1, x0, x1, x2, x7, x9, x11, x74 => if x74 = true then (some false) else (dancestudiolaw14_TempoInverse.l0 k x0 x1 x2 x7 x9 x11 0 0)
def dancestudiolaw14_TempoInverse.l0 : Nat → List (S38) → Int → Int → Int → Int → Int → Int → Int → Option (Bool)
 | 0, _, _, _, _, _, _, _, _ => none
 | k + 1, x0, x1, x2, x7, x9, x11, x13, x14 => if x14 < (x0.length : Int) then (if 0 ≤ x14 then (if ((rd_T38 x0 x14).f0) ≤ x1 then (dancestudiolaw14_TempoInverse.l0 k x0 x1 x2 x7 x9 x11 ((rd_T38 x0 x14).f1) (wrap64 (x14 + 1))) else (dancestudiolaw14_TempoInverse.l0 k x0 x1 x2 x7 x9 x11 x13 (wrap64 (x14 + 1)))) else (none)) else (if (wrap64 (x9 - x7)) = x13 then ((dancestudiolaw14_back.f k x0 x7 x1).bind fun t313 => (if t313 = true then ((dancestudiolaw14_back.f k x0 x9 (wrap64 (x1 + 1))).bind fun t314 => (if t314 = true then ((dancestudiolaw14_back.f k x0 (wrap64 (x9 - 1)) x1).bind fun t315 => (if t315 = true then ((dancestudiolaw14_back.f k x0 x11 8192).bind fun t316 => (dancestudiolaw14_TempoInverse.j3 k x0 x1 x2 x7 x9 (!t316))) else (dancestudiolaw14_TempoInverse.j3 k x0 x1 x2 x7 x9 true))) else (dancestudiolaw14_TempoInverse.j3 k x0 x1 x2 x7 x9 true))) else (dancestudiolaw14_TempoInverse.j3 k x0 x1 x2 x7 x9 true))) else (dancestudiolaw14_TempoInverse.j3 k x0 x1 x2 x7 x9 true))
def dancestudiolaw14_TempoInverse.j3 : Nat → List (S38) → Int → Int → Int → Int → Bool → Option (Bool)
 | 0, _, _, _, _, _, _ => none
 | k + 1, x0, x1, x2, x7, x9, x126 => if x126 = true then (some false) else (if x2 ≥ 0 then (if x2 < (wrap64 (x9 - x7)) then ((dancestudiolaw14_back.f k x0 (wrap64 (x7 + x2)) x1).bind fun t317 => (dancestudiolaw14_TempoInverse.j4 k x0 (!t317))) else (dancestudiolaw14_TempoInverse.j4 k x0 false)) else (dancestudiolaw14_TempoInverse.j4 k x0 false))
def dancestudiolaw14_TempoInverse.j4 : Nat → List (S38) → Bool → Option (Bool)
 | 0, _, _ => none
 | k + 1, x0, x144 => if x144 = true then (some false) else ((dancestudiolaw14_when.f k x0 0 0).bind fun t318 => (if t318 = true then ((dancestudiolaw14_awake.f k).bind fun t319 => (some t319)) else (some false)))
end
def dancestudiolaw14_TempoInverse.f (k : Nat) (l0 : List (S38)) (a1 : Int) (a2 : Int) : Option (Bool) := (tempo_Check.f k l0).bind fun t303 => (if t303 = 0 then (if a1 < 0 then (dancestudiolaw14_TempoInverse.j0 k l0 a1 a2 true) else (dancestudiolaw14_TempoInverse.j0 k l0 a1 a2 (decide (a1 ≥ 8192)))) else (dancestudiolaw14_TempoInverse.j0 k l0 a1 a2 true))
theorem dancestudiolaw14_TempoInverse.mono_l : ∀ k, (∀ y0 y1 y2 y3, LeO (dancestudiolaw14_TempoInverse.j0 k y0 y1 y2 y3) (dancestudiolaw14_TempoInverse.j0 (k + 1) y0 y1 y2 y3)) ∧ (∀ y0 y1 y2 y3 y4 y5 y6, LeO (dancestudiolaw14_TempoInverse.j1 k y0 y1 y2 y3 y4 y5 y6) (dancestudiolaw14_TempoInverse.j1 (k + 1) y0 y1 y2 y3 y4 y5 y6)) ∧ (∀ y0 y1 y2 y3 y4 y5 y6 y7, LeO (dancestudiolaw14_TempoInverse.l0 k y0 y1 y2 y3 y4 y5 y6 y7) (dancestudiolaw14_TempoInverse.l0 (k + 1) y0 y1 y2 y3 y4 y5 y6 y7)) ∧ (∀ y0 y1 y2 y3 y4 y5, LeO (dancestudiolaw14_TempoInverse.j3 k y0 y1 y2 y3 y4 y5) (dancestudiolaw14_TempoInverse.j3 (k + 1) y0 y1 y2 y3 y4 y5)) ∧ (∀ y0 y1, LeO (dancestudiolaw14_TempoInverse.j4 k y0 y1) (dancestudiolaw14_TempoInverse.j4 (k + 1) y0 y1))
 | 0 => ⟨fun _ _ _ _ r h => by simp [dancestudiolaw14_TempoInverse.j0] at h, fun _ _ _ _ _ _ _ r h => by simp [dancestudiolaw14_TempoInverse.j1] at h, fun _ _ _ _ _ _ _ _ r h => by simp [dancestudiolaw14_TempoInverse.l0] at h, fun _ _ _ _ _ _ r h => by simp [dancestudiolaw14_TempoInverse.j3] at h, fun _ _ r h => by simp [dancestudiolaw14_TempoInverse.j4] at h⟩
 | k + 1 => by
  obtain ⟨ih0, ih1, ih2, ih3, ih4⟩ := dancestudiolaw14_TempoInverse.mono_l k
  refine ⟨?_, ?_, ?_, ?_, ?_⟩
  ·
   intro y0 y1 y2 y3
   unfold dancestudiolaw14_TempoInverse.j0
   repeat' first
   | (with_reducible exact ih0 _ _ _ _)
   | (with_reducible exact ih1 _ _ _ _ _ _ _)
   | (with_reducible exact ih2 _ _ _ _ _ _ _ _)
   | (with_reducible exact ih3 _ _ _ _ _ _)
   | (with_reducible exact ih4 _ _)
   | (with_reducible exact dancestudiolaw14_awake.mono _)
   | (with_reducible exact dancestudiolaw14_back.mono _ _ _ _)
   | (with_reducible exact dancestudiolaw14_when.mono _ _ _ _)
   | (with_reducible exact tempo_Check.mono _ _)
   | (with_reducible exact tempo_When.mono _ _ _)
   | (with_reducible exact LeO.refl _)
   | (with_reducible exact LeO.none _)
   | (with_reducible refine LeO.ite ?_ ?_)
   | (with_reducible refine LeO.bind ?_ (fun _ => ?_))
   | exact ih0 _ _ _ _
   | exact ih1 _ _ _ _ _ _ _
   | exact ih2 _ _ _ _ _ _ _ _
   | exact ih3 _ _ _ _ _ _
   | exact ih4 _ _
   | exact dancestudiolaw14_awake.mono _
   | exact dancestudiolaw14_back.mono _ _ _ _
   | exact dancestudiolaw14_when.mono _ _ _ _
   | exact tempo_Check.mono _ _
   | exact tempo_When.mono _ _ _
   | exact LeO.none _
   | refine LeO.ite ?_ ?_
   | refine LeO.bind ?_ (fun _ => ?_)
  ·
   intro y0 y1 y2 y3 y4 y5 y6
   unfold dancestudiolaw14_TempoInverse.j1
   repeat' first
   | (with_reducible exact ih0 _ _ _ _)
   | (with_reducible exact ih1 _ _ _ _ _ _ _)
   | (with_reducible exact ih2 _ _ _ _ _ _ _ _)
   | (with_reducible exact ih3 _ _ _ _ _ _)
   | (with_reducible exact ih4 _ _)
   | (with_reducible exact dancestudiolaw14_awake.mono _)
   | (with_reducible exact dancestudiolaw14_back.mono _ _ _ _)
   | (with_reducible exact dancestudiolaw14_when.mono _ _ _ _)
   | (with_reducible exact tempo_Check.mono _ _)
   | (with_reducible exact tempo_When.mono _ _ _)
   | (with_reducible exact LeO.refl _)
   | (with_reducible exact LeO.none _)
   | (with_reducible refine LeO.ite ?_ ?_)
   | (with_reducible refine LeO.bind ?_ (fun _ => ?_))
   | exact ih0 _ _ _ _
   | exact ih1 _ _ _ _ _ _ _
   | exact ih2 _ _ _ _ _ _ _ _
   | exact ih3 _ _ _ _ _ _
   | exact ih4 _ _
   | exact dancestudiolaw14_awake.mono _
   | exact dancestudiolaw14_back.mono _ _ _ _
   | exact dancestudiolaw14_when.mono _ _ _ _
   | exact tempo_Check.mono _ _
   | exact tempo_When.mono _ _ _
   | exact LeO.none _
   | refine LeO.ite ?_ ?_
   | refine LeO.bind ?_ (fun _ => ?_)
  ·
   intro y0 y1 y2 y3 y4 y5 y6 y7
   unfold dancestudiolaw14_TempoInverse.l0
   repeat' first
   | (with_reducible exact ih0 _ _ _ _)
   | (with_reducible exact ih1 _ _ _ _ _ _ _)
   | (with_reducible exact ih2 _ _ _ _ _ _ _ _)
   | (with_reducible exact ih3 _ _ _ _ _ _)
   | (with_reducible exact ih4 _ _)
   | (with_reducible exact dancestudiolaw14_awake.mono _)
   | (with_reducible exact dancestudiolaw14_back.mono _ _ _ _)
   | (with_reducible exact dancestudiolaw14_when.mono _ _ _ _)
   | (with_reducible exact tempo_Check.mono _ _)
   | (with_reducible exact tempo_When.mono _ _ _)
   | (with_reducible exact LeO.refl _)
   | (with_reducible exact LeO.none _)
   | (with_reducible refine LeO.ite ?_ ?_)
   | (with_reducible refine LeO.bind ?_ (fun _ => ?_))
   | exact ih0 _ _ _ _
   | exact ih1 _ _ _ _ _ _ _
   | exact ih2 _ _ _ _ _ _ _ _
   | exact ih3 _ _ _ _ _ _
   | exact ih4 _ _
   | exact dancestudiolaw14_awake.mono _
   | exact dancestudiolaw14_back.mono _ _ _ _
   | exact dancestudiolaw14_when.mono _ _ _ _
   | exact tempo_Check.mono _ _
   | exact tempo_When.mono _ _ _
   | exact LeO.none _
   | refine LeO.ite ?_ ?_
   | refine LeO.bind ?_ (fun _ => ?_)
  ·
   intro y0 y1 y2 y3 y4 y5
   unfold dancestudiolaw14_TempoInverse.j3
   repeat' first
   | (with_reducible exact ih0 _ _ _ _)
   | (with_reducible exact ih1 _ _ _ _ _ _ _)
   | (with_reducible exact ih2 _ _ _ _ _ _ _ _)
   | (with_reducible exact ih3 _ _ _ _ _ _)
   | (with_reducible exact ih4 _ _)
   | (with_reducible exact dancestudiolaw14_awake.mono _)
   | (with_reducible exact dancestudiolaw14_back.mono _ _ _ _)
   | (with_reducible exact dancestudiolaw14_when.mono _ _ _ _)
   | (with_reducible exact tempo_Check.mono _ _)
   | (with_reducible exact tempo_When.mono _ _ _)
   | (with_reducible exact LeO.refl _)
   | (with_reducible exact LeO.none _)
   | (with_reducible refine LeO.ite ?_ ?_)
   | (with_reducible refine LeO.bind ?_ (fun _ => ?_))
   | exact ih0 _ _ _ _
   | exact ih1 _ _ _ _ _ _ _
   | exact ih2 _ _ _ _ _ _ _ _
   | exact ih3 _ _ _ _ _ _
   | exact ih4 _ _
   | exact dancestudiolaw14_awake.mono _
   | exact dancestudiolaw14_back.mono _ _ _ _
   | exact dancestudiolaw14_when.mono _ _ _ _
   | exact tempo_Check.mono _ _
   | exact tempo_When.mono _ _ _
   | exact LeO.none _
   | refine LeO.ite ?_ ?_
   | refine LeO.bind ?_ (fun _ => ?_)
  ·
   intro y0 y1
   unfold dancestudiolaw14_TempoInverse.j4
   repeat' first
   | (with_reducible exact ih0 _ _ _ _)
   | (with_reducible exact ih1 _ _ _ _ _ _ _)
   | (with_reducible exact ih2 _ _ _ _ _ _ _ _)
   | (with_reducible exact ih3 _ _ _ _ _ _)
   | (with_reducible exact ih4 _ _)
   | (with_reducible exact dancestudiolaw14_awake.mono _)
   | (with_reducible exact dancestudiolaw14_back.mono _ _ _ _)
   | (with_reducible exact dancestudiolaw14_when.mono _ _ _ _)
   | (with_reducible exact tempo_Check.mono _ _)
   | (with_reducible exact tempo_When.mono _ _ _)
   | (with_reducible exact LeO.refl _)
   | (with_reducible exact LeO.none _)
   | (with_reducible refine LeO.ite ?_ ?_)
   | (with_reducible refine LeO.bind ?_ (fun _ => ?_))
   | exact ih0 _ _ _ _
   | exact ih1 _ _ _ _ _ _ _
   | exact ih2 _ _ _ _ _ _ _ _
   | exact ih3 _ _ _ _ _ _
   | exact ih4 _ _
   | exact dancestudiolaw14_awake.mono _
   | exact dancestudiolaw14_back.mono _ _ _ _
   | exact dancestudiolaw14_when.mono _ _ _ _
   | exact tempo_Check.mono _ _
   | exact tempo_When.mono _ _ _
   | exact LeO.none _
   | refine LeO.ite ?_ ?_
   | refine LeO.bind ?_ (fun _ => ?_)
theorem dancestudiolaw14_TempoInverse.mono : ∀ a0 a1 a2 k, LeO (dancestudiolaw14_TempoInverse.f k a0 a1 a2) (dancestudiolaw14_TempoInverse.f (k + 1) a0 a1 a2) := by
 intro a0 a1 a2 k
 obtain ⟨ih0, ih1, ih2, ih3, ih4⟩ := dancestudiolaw14_TempoInverse.mono_l k
 unfold dancestudiolaw14_TempoInverse.f
 repeat' first
   | (with_reducible exact ih0 _ _ _ _)
   | (with_reducible exact ih1 _ _ _ _ _ _ _)
   | (with_reducible exact ih2 _ _ _ _ _ _ _ _)
   | (with_reducible exact ih3 _ _ _ _ _ _)
   | (with_reducible exact ih4 _ _)
   | (with_reducible exact dancestudiolaw14_awake.mono _)
   | (with_reducible exact dancestudiolaw14_back.mono _ _ _ _)
   | (with_reducible exact dancestudiolaw14_when.mono _ _ _ _)
   | (with_reducible exact tempo_Check.mono _ _)
   | (with_reducible exact tempo_When.mono _ _ _)
   | (with_reducible exact LeO.refl _)
   | (with_reducible exact LeO.none _)
   | (with_reducible refine LeO.ite ?_ ?_)
   | (with_reducible refine LeO.bind ?_ (fun _ => ?_))
   | exact ih0 _ _ _ _
   | exact ih1 _ _ _ _ _ _ _
   | exact ih2 _ _ _ _ _ _ _ _
   | exact ih3 _ _ _ _ _ _
   | exact ih4 _ _
   | exact dancestudiolaw14_awake.mono _
   | exact dancestudiolaw14_back.mono _ _ _ _
   | exact dancestudiolaw14_when.mono _ _ _ _
   | exact tempo_Check.mono _ _
   | exact tempo_When.mono _ _ _
   | exact LeO.none _
   | refine LeO.ite ?_ ?_
   | refine LeO.bind ?_ (fun _ => ?_)
set_option maxHeartbeats 8000000 in
set_option maxRecDepth 100000 in
theorem dancestudiolaw14_TempoInverse.calls (k : Nat) (A0 : Option Addr) (c0 : Nat) (l0 : List (S38)) (a1 : Int) (a2 : Int) (r : Bool) (w : World) (hr0 : Kd.C k38 w A0 l0.length l0) (hc0 : l0.length ≤ c0) (h : dancestudiolaw14_TempoInverse.f k l0 a1 a2 = some r) :
  Calls Try.prog 8 #[.slice A0 l0.length c0, .int .i64 a1, .int .i64 a2] w fun e w' => e = .returned (.bool r) ∧ Below w.heap.size w w' := by
 have HR0 := Aside0.mk hr0
 have HC0 := Aside0.mk hc0
 clear hr0 hc0
 have HB := Aside0.mk (Below.refl w.heap.size w)
 have H : ((tempo_Check.f k l0).bind fun t303 => (if t303 = 0 then (if a1 < 0 then (dancestudiolaw14_TempoInverse.j0 k l0 a1 a2 true) else (dancestudiolaw14_TempoInverse.j0 k l0 a1 a2 (decide (a1 ≥ 8192)))) else (dancestudiolaw14_TempoInverse.j0 k l0 a1 a2 true))) = some r := h
 clear h
 have HC4 := Aside0.mk H
 clear H
 go_enter Try.func8, Try.ntmps8
 go_upto_region 1 with (fail)
 go_cut [25] (fun v25 wc => ∃ (kq : Nat) (x25_3 : Bool), v25 = .bool x25_3 ∧ Aside0 (dancestudiolaw14_TempoInverse.j0 kq l0 a1 a2 x25_3 = some r) ∧ Aside0 (kq ≤ k) ∧ Aside0 (Below w.heap.size w wc))
 case first =>
  have H := HC4.out
  clear HC4
  replace H := Option.bind_eq_some_iff.mp H
  obtain ⟨t303, A50, H⟩ := H
  replace H : (if t303 = 0 then (if a1 < 0 then (dancestudiolaw14_TempoInverse.j0 k l0 a1 a2 true) else (dancestudiolaw14_TempoInverse.j0 k l0 a1 a2 (decide (a1 ≥ 8192)))) else (dancestudiolaw14_TempoInverse.j0 k l0 a1 a2 true)) = some r := H
  have A5 := Aside0.mk A50
  clear A50
  by_cases c6 : t303 = 0
  ·
   rw [if_pos c6] at H
   have c6b0 : (t303 == 0) = true := beq_iff_eq.mpr c6
   have c6b1 : (t303 != 0) = false := bne_eq_false_iff_eq.mpr c6
   clear c6
   (first | rw [c6b0] | (simp only [i64_w, i32_w]; rw [c6b0]) | skip)
   by_cases c7 : a1 < 0
   ·
    rw [if_pos c7] at H
    have c7b0 : decide (a1 < 0) = true := decide_eq_true c7
    clear c7
    have H' := Aside0.mk H
    clear H
    go_wp2_with (first | ((with_reducible refine gate_callee (f := 12) rfl ?_); refine goesL_ (some 16) rfl rfl Try.func12 (by kernel_rfl) rfl #[.slice A0 l0.length c0] rfl (by (try simp only [List.map_toArray, List.map_cons, List.map_nil]); first | done | rfl | (simp only [List.length_drop, List.length_take]; rfl)) ?_; (with_reducible refine (tempo_Check.calls k _ _ l0 t303 _ ?side1 ?side2 A5.out).mono ?_); (case side1 => repeat (first | exact (Kd.C_below HR0.out HB.out) | (with_reducible refine Kd.C_alloc ?_ _) | (with_reducible refine Kd.C_drewN ?_ _) | (with_reducible refine Kd.C_drew ?_))); (case side2 => exact HC0.out); rintro e w8 ⟨rfl, hb⟩; refine ⟨_, rfl, ?_⟩; have n0_ := Aside0.mk (below_step (by repeat (first | (with_reducible first | exact HB.out | apply below_alloc | apply pw_below_drewN | apply below_drew1) | exact HB.out)) hb); clear HB; have HB := n0_; clear n0_; (try clear hb); (try clear hb2); (try clear hk); (try clear hi)))
    go_meet
    case rel => exact ⟨_, (true), (by first | rfl | (simp; done) | (simp [*]; done)), H', ⟨by first | omega | exact Nat.le_refl _⟩, ⟨by repeat (first | (with_reducible first | exact HB.out | apply below_alloc | apply pw_below_drewN | apply below_drew1) | exact HB.out)⟩⟩
   ·
    rw [if_neg c7] at H
    have c7b0 : decide (a1 < 0) = false := decide_eq_false c7
    clear c7
    have H' := Aside0.mk H
    clear H
    go_wp2_with (first | ((with_reducible refine gate_callee (f := 12) rfl ?_); refine goesL_ (some 16) rfl rfl Try.func12 (by kernel_rfl) rfl #[.slice A0 l0.length c0] rfl (by (try simp only [List.map_toArray, List.map_cons, List.map_nil]); first | done | rfl | (simp only [List.length_drop, List.length_take]; rfl)) ?_; (with_reducible refine (tempo_Check.calls k _ _ l0 t303 _ ?side1 ?side2 A5.out).mono ?_); (case side1 => repeat (first | exact (Kd.C_below HR0.out HB.out) | (with_reducible refine Kd.C_alloc ?_ _) | (with_reducible refine Kd.C_drewN ?_ _) | (with_reducible refine Kd.C_drew ?_))); (case side2 => exact HC0.out); rintro e w9 ⟨rfl, hb⟩; refine ⟨_, rfl, ?_⟩; have n0_ := Aside0.mk (below_step (by repeat (first | (with_reducible first | exact HB.out | apply below_alloc | apply pw_below_drewN | apply below_drew1) | exact HB.out)) hb); clear HB; have HB := n0_; clear n0_; (try clear hb); (try clear hb2); (try clear hk); (try clear hi)))
    go_meet
    case rel => exact ⟨_, (decide (a1 ≥ 8192)), (by first | rfl | (simp; done) | (simp [*]; done)), H', ⟨by first | omega | exact Nat.le_refl _⟩, ⟨by repeat (first | (with_reducible first | exact HB.out | apply below_alloc | apply pw_below_drewN | apply below_drew1) | exact HB.out)⟩⟩
  ·
   rw [if_neg c6] at H
   have c6b0 : (t303 == 0) = false := beq_eq_false_iff_ne.mpr c6
   have c6b1 : (t303 != 0) = true := bne_iff_ne.mpr c6
   (first | rw [c6b0] | (simp only [i64_w, i32_w]; rw [c6b0]) | skip)
   have H' := Aside0.mk H
   clear H
   go_wp2_with (first | ((with_reducible refine gate_callee (f := 12) rfl ?_); refine goesL_ (some 16) rfl rfl Try.func12 (by kernel_rfl) rfl #[.slice A0 l0.length c0] rfl (by (try simp only [List.map_toArray, List.map_cons, List.map_nil]); first | done | rfl | (simp only [List.length_drop, List.length_take]; rfl)) ?_; (with_reducible refine (tempo_Check.calls k _ _ l0 t303 _ ?side1 ?side2 A5.out).mono ?_); (case side1 => repeat (first | exact (Kd.C_below HR0.out HB.out) | (with_reducible refine Kd.C_alloc ?_ _) | (with_reducible refine Kd.C_drewN ?_ _) | (with_reducible refine Kd.C_drew ?_))); (case side2 => exact HC0.out); rintro e w10 ⟨rfl, hb⟩; refine ⟨_, rfl, ?_⟩; have n0_ := Aside0.mk (below_step (by repeat (first | (with_reducible first | exact HB.out | apply below_alloc | apply pw_below_drewN | apply below_drew1) | exact HB.out)) hb); clear HB; have HB := n0_; clear n0_; (try clear hb); (try clear hb2); (try clear hk); (try clear hi)))
   go_meet
   case rel => exact ⟨_, (true), (by first | rfl | (simp; done) | (simp [*]; done)), H', ⟨by first | omega | exact Nat.le_refl _⟩, ⟨by repeat (first | (with_reducible first | exact HB.out | apply below_alloc | apply pw_below_drewN | apply below_drew1) | exact HB.out)⟩⟩
 case rest =>
  clear HC4
  try clear c1
  try clear p2
  try clear c6
  try clear c6b0
  try clear c6b1
  try clear c7
  try clear c7b0
  try clear c8
  obtain ⟨kq, x25_3, rfl, HA, HJ3, HB⟩ := hcut
  cases kq with
  | zero => exact absurd HA.out (by simp [dancestudiolaw14_TempoInverse.j0])
  | succ kj3 =>
   have H := HA.out
   clear HA
   simp only [dancestudiolaw14_TempoInverse.j0] at H
   by_cases c11 : x25_3 = true
   ·
    subst c11
    have H1 : ((dancestudiolaw14_awake.f kj3).bind fun t304 => (some t304)) = some r := by rw [if_pos rfl] at H; exact H
    clear H
    have H := H1
    clear H1
    replace H := Option.bind_eq_some_iff.mp H
    obtain ⟨t304, A120, H⟩ := H
    replace H : (some t304) = some r := H
    have A12 := Aside0.mk A120
    clear A120
    obtain rfl := Option.some.inj H
    go_wp2_with (first | ((with_reducible refine gate_callee (f := 13) rfl ?_); refine goesL_ (some 26) rfl rfl Try.func13 (by kernel_rfl) rfl #[] rfl (by (try simp only [List.map_toArray, List.map_cons, List.map_nil]); first | done | rfl | (simp only [List.length_drop, List.length_take]; rfl)) ?_; (with_reducible refine (dancestudiolaw14_awake.calls kj3  t304 _ A12.out).mono ?_); rintro e w13 ⟨rfl, hb⟩; refine ⟨_, rfl, ?_⟩; have n0_ := Aside0.mk (below_step (by repeat (first | (with_reducible first | exact HB.out | apply below_alloc | apply pw_below_drewN | apply below_drew1) | exact HB.out)) hb); clear HB; have HB := n0_; clear n0_; (try clear hb); (try clear hb2); (try clear hk); (try clear hi)))
    go_ret
    exact ⟨by first | rfl | (simp [errW_none, errW_some] <;> rfl) | (simp [*, errW_none, errW_some] <;> rfl), by repeat (first | (with_reducible first | exact HB.out | apply below_alloc | apply pw_below_drewN | apply below_drew1) | exact HB.out)⟩
   ·
    replace c11 := Bool.eq_false_iff.mpr c11
    subst c11
    have H1 : ((tempo_When.f kj3 l0 a1).bind fun bt305 => ((tempo_When.f kj3 l0 (wrap64 (a1 + 1))).bind fun bt307 => ((tempo_When.f kj3 l0 8192).bind fun bt309 => (if bt305.2 = 0 then (if bt307.2 = 0 then (if bt309.2 = 0 then (if bt305.1 < 0 then (dancestudiolaw14_TempoInverse.j1 kj3 l0 a1 a2 bt305.1 bt307.1 bt309.1 true) else (if bt307.1 ≤ bt305.1 then (dancestudiolaw14_TempoInverse.j1 kj3 l0 a1 a2 bt305.1 bt307.1 bt309.1 true) else (if bt307.1 > bt309.1 then (dancestudiolaw14_TempoInverse.j1 kj3 l0 a1 a2 bt305.1 bt307.1 bt309.1 true) else (dancestudiolaw14_TempoInverse.j1 kj3 l0 a1 a2 bt305.1 bt307.1 bt309.1 (decide ((wrap64 (bt307.1 - bt305.1)) > 4194304)))))) else (dancestudiolaw14_TempoInverse.j1 kj3 l0 a1 a2 bt305.1 bt307.1 bt309.1 true)) else (dancestudiolaw14_TempoInverse.j1 kj3 l0 a1 a2 bt305.1 bt307.1 bt309.1 true)) else (dancestudiolaw14_TempoInverse.j1 kj3 l0 a1 a2 bt305.1 bt307.1 bt309.1 true))))) = some r := by rw [if_neg (show ¬ (false = true) by decide)] at H; exact H
    clear H
    have H := H1
    clear H1
    replace H := Option.bind_eq_some_iff.mp H
    obtain ⟨⟨t305, t306⟩, A140, H⟩ := H
    replace H : ((tempo_When.f kj3 l0 (wrap64 (a1 + 1))).bind fun bt307 => ((tempo_When.f kj3 l0 8192).bind fun bt309 => (if t306 = 0 then (if bt307.2 = 0 then (if bt309.2 = 0 then (if t305 < 0 then (dancestudiolaw14_TempoInverse.j1 kj3 l0 a1 a2 t305 bt307.1 bt309.1 true) else (if bt307.1 ≤ t305 then (dancestudiolaw14_TempoInverse.j1 kj3 l0 a1 a2 t305 bt307.1 bt309.1 true) else (if bt307.1 > bt309.1 then (dancestudiolaw14_TempoInverse.j1 kj3 l0 a1 a2 t305 bt307.1 bt309.1 true) else (dancestudiolaw14_TempoInverse.j1 kj3 l0 a1 a2 t305 bt307.1 bt309.1 (decide ((wrap64 (bt307.1 - t305)) > 4194304)))))) else (dancestudiolaw14_TempoInverse.j1 kj3 l0 a1 a2 t305 bt307.1 bt309.1 true)) else (dancestudiolaw14_TempoInverse.j1 kj3 l0 a1 a2 t305 bt307.1 bt309.1 true)) else (dancestudiolaw14_TempoInverse.j1 kj3 l0 a1 a2 t305 bt307.1 bt309.1 true)))) = some r := H
    have A14 := Aside0.mk A140
    clear A140
    replace H := Option.bind_eq_some_iff.mp H
    obtain ⟨⟨t307, t308⟩, A150, H⟩ := H
    replace H : ((tempo_When.f kj3 l0 8192).bind fun bt309 => (if t306 = 0 then (if t308 = 0 then (if bt309.2 = 0 then (if t305 < 0 then (dancestudiolaw14_TempoInverse.j1 kj3 l0 a1 a2 t305 t307 bt309.1 true) else (if t307 ≤ t305 then (dancestudiolaw14_TempoInverse.j1 kj3 l0 a1 a2 t305 t307 bt309.1 true) else (if t307 > bt309.1 then (dancestudiolaw14_TempoInverse.j1 kj3 l0 a1 a2 t305 t307 bt309.1 true) else (dancestudiolaw14_TempoInverse.j1 kj3 l0 a1 a2 t305 t307 bt309.1 (decide ((wrap64 (t307 - t305)) > 4194304)))))) else (dancestudiolaw14_TempoInverse.j1 kj3 l0 a1 a2 t305 t307 bt309.1 true)) else (dancestudiolaw14_TempoInverse.j1 kj3 l0 a1 a2 t305 t307 bt309.1 true)) else (dancestudiolaw14_TempoInverse.j1 kj3 l0 a1 a2 t305 t307 bt309.1 true))) = some r := H
    have A15 := Aside0.mk A150
    clear A150
    replace H := Option.bind_eq_some_iff.mp H
    obtain ⟨⟨t309, t310⟩, A160, H⟩ := H
    replace H : (if t306 = 0 then (if t308 = 0 then (if t310 = 0 then (if t305 < 0 then (dancestudiolaw14_TempoInverse.j1 kj3 l0 a1 a2 t305 t307 t309 true) else (if t307 ≤ t305 then (dancestudiolaw14_TempoInverse.j1 kj3 l0 a1 a2 t305 t307 t309 true) else (if t307 > t309 then (dancestudiolaw14_TempoInverse.j1 kj3 l0 a1 a2 t305 t307 t309 true) else (dancestudiolaw14_TempoInverse.j1 kj3 l0 a1 a2 t305 t307 t309 (decide ((wrap64 (t307 - t305)) > 4194304)))))) else (dancestudiolaw14_TempoInverse.j1 kj3 l0 a1 a2 t305 t307 t309 true)) else (dancestudiolaw14_TempoInverse.j1 kj3 l0 a1 a2 t305 t307 t309 true)) else (dancestudiolaw14_TempoInverse.j1 kj3 l0 a1 a2 t305 t307 t309 true)) = some r := H
    have A16 := Aside0.mk A160
    clear A160
    have HC17 := Aside0.mk H
    clear H
    go_upto_region 6 with (first | ((with_reducible refine gate_callee (f := 14) rfl ?_); refine goesL_ (some 30) rfl rfl Try.func14 (by kernel_rfl) rfl #[.slice A0 l0.length c0, .int .i64 a1] rfl (by (try simp only [List.map_toArray, List.map_cons, List.map_nil]); first | done | rfl | (simp only [List.length_drop, List.length_take]; rfl)) ?_; (with_reducible refine (tempo_When.calls kj3 _ _ l0 a1 t305 t306 _ ?side1 ?side2 A14.out).mono ?_); (case side1 => repeat (first | exact (Kd.C_below HR0.out HB.out) | (with_reducible refine Kd.C_alloc ?_ _) | (with_reducible refine Kd.C_drewN ?_ _) | (with_reducible refine Kd.C_drew ?_))); (case side2 => exact HC0.out); rintro e w18 ⟨rfl, hb⟩; refine ⟨_, rfl, ?_⟩; have n0_ := Aside0.mk (below_step (by repeat (first | (with_reducible first | exact HB.out | apply below_alloc | apply pw_below_drewN | apply below_drew1) | exact HB.out)) hb); clear HB; have HB := n0_; clear n0_; (try clear hb); (try clear hb2); (try clear hk); (try clear hi)) | ((with_reducible refine gate_callee (f := 14) rfl ?_); refine goesL_ (some 37) rfl rfl Try.func14 (by kernel_rfl) rfl #[.slice A0 l0.length c0, .int .i64 (wrap64 (a1 + 1))] rfl (by (try simp only [List.map_toArray, List.map_cons, List.map_nil]); first | done | rfl | (simp only [List.length_drop, List.length_take]; rfl)) ?_; (with_reducible refine (tempo_When.calls kj3 _ _ l0 (wrap64 (a1 + 1)) t307 t308 _ ?side1 ?side2 A15.out).mono ?_); (case side1 => repeat (first | exact (Kd.C_below HR0.out HB.out) | (with_reducible refine Kd.C_alloc ?_ _) | (with_reducible refine Kd.C_drewN ?_ _) | (with_reducible refine Kd.C_drew ?_))); (case side2 => exact HC0.out); rintro e w19 ⟨rfl, hb⟩; refine ⟨_, rfl, ?_⟩; have n0_ := Aside0.mk (below_step (by repeat (first | (with_reducible first | exact HB.out | apply below_alloc | apply pw_below_drewN | apply below_drew1) | exact HB.out)) hb); clear HB; have HB := n0_; clear n0_; (try clear hb); (try clear hb2); (try clear hk); (try clear hi)) | ((with_reducible refine gate_callee (f := 14) rfl ?_); refine goesL_ (some 42) rfl rfl Try.func14 (by kernel_rfl) rfl #[.slice A0 l0.length c0, .int .i64 8192] rfl (by (try simp only [List.map_toArray, List.map_cons, List.map_nil]); first | done | rfl | (simp only [List.length_drop, List.length_take]; rfl)) ?_; (with_reducible refine (tempo_When.calls kj3 _ _ l0 8192 t309 t310 _ ?side1 ?side2 A16.out).mono ?_); (case side1 => repeat (first | exact (Kd.C_below HR0.out HB.out) | (with_reducible refine Kd.C_alloc ?_ _) | (with_reducible refine Kd.C_drewN ?_ _) | (with_reducible refine Kd.C_drew ?_))); (case side2 => exact HC0.out); rintro e w20 ⟨rfl, hb⟩; refine ⟨_, rfl, ?_⟩; have n0_ := Aside0.mk (below_step (by repeat (first | (with_reducible first | exact HB.out | apply below_alloc | apply pw_below_drewN | apply below_drew1) | exact HB.out)) hb); clear HB; have HB := n0_; clear n0_; (try clear hb); (try clear hb2); (try clear hk); (try clear hi)))
    (try simp only [Act.put, List.setIfInBounds_toArray, List.set_cons_zero, List.set_cons_succ])
    go_cut [74] (fun v74 wc => ∃ (kq : Nat) (x74_16 : Bool), v74 = .bool x74_16 ∧ Aside0 (dancestudiolaw14_TempoInverse.j1 kq l0 a1 a2 t305 t307 t309 x74_16 = some r) ∧ Aside0 (kq ≤ kj3) ∧ Aside0 (Below w.heap.size w wc))
    case first =>
     have H := HC17.out
     clear HC17
     by_cases c21 : t306 = 0
     ·
      rw [if_pos c21] at H
      have c21b0 : (t306 == 0) = true := beq_iff_eq.mpr c21
      have c21b1 : (t306 != 0) = false := bne_eq_false_iff_eq.mpr c21
      clear c21
      (first | rw [c21b0] | (simp only [i64_w, i32_w]; rw [c21b0]) | skip)
      by_cases c22 : t308 = 0
      ·
       rw [if_pos c22] at H
       have c22b0 : (t308 == 0) = true := beq_iff_eq.mpr c22
       have c22b1 : (t308 != 0) = false := bne_eq_false_iff_eq.mpr c22
       clear c22
       by_cases c23 : t310 = 0
       ·
        rw [if_pos c23] at H
        have c23b0 : (t310 == 0) = true := beq_iff_eq.mpr c23
        have c23b1 : (t310 != 0) = false := bne_eq_false_iff_eq.mpr c23
        clear c23
        by_cases c24 : t305 < 0
        ·
         rw [if_pos c24] at H
         have c24b0 : decide (t305 < 0) = true := decide_eq_true c24
         clear c24
         have H' := Aside0.mk H
         clear H
         go_wp2
         go_meet
         case rel => exact ⟨_, (true), (by first | rfl | (simp; done) | (simp [*]; done)), H', ⟨by have := HJ3.out; first | omega | exact Nat.le_refl _⟩, ⟨by repeat (first | (with_reducible first | exact HB.out | apply below_alloc | apply pw_below_drewN | apply below_drew1) | exact HB.out)⟩⟩
        ·
         rw [if_neg c24] at H
         have c24b0 : decide (t305 < 0) = false := decide_eq_false c24
         clear c24
         by_cases c25 : t307 ≤ t305
         ·
          rw [if_pos c25] at H
          have c25b0 : decide (t307 ≤ t305) = true := decide_eq_true c25
          clear c25
          have H' := Aside0.mk H
          clear H
          go_wp2
          go_meet
          case rel => exact ⟨_, (true), (by first | rfl | (simp; done) | (simp [*]; done)), H', ⟨by have := HJ3.out; first | omega | exact Nat.le_refl _⟩, ⟨by repeat (first | (with_reducible first | exact HB.out | apply below_alloc | apply pw_below_drewN | apply below_drew1) | exact HB.out)⟩⟩
         ·
          rw [if_neg c25] at H
          have c25b0 : decide (t307 ≤ t305) = false := decide_eq_false c25
          clear c25
          by_cases c26 : t307 > t309
          ·
           rw [if_pos c26] at H
           have c26b0 : decide (t309 < t307) = true := decide_eq_true c26
           clear c26
           have H' := Aside0.mk H
           clear H
           go_wp2
           go_meet
           case rel => exact ⟨_, (true), (by first | rfl | (simp; done) | (simp [*]; done)), H', ⟨by have := HJ3.out; first | omega | exact Nat.le_refl _⟩, ⟨by repeat (first | (with_reducible first | exact HB.out | apply below_alloc | apply pw_below_drewN | apply below_drew1) | exact HB.out)⟩⟩
          ·
           rw [if_neg c26] at H
           have c26b0 : decide (t309 < t307) = false := decide_eq_false c26
           clear c26
           have H' := Aside0.mk H
           clear H
           go_wp2
           go_meet
           case rel => exact ⟨_, (decide ((wrap64 (t307 - t305)) > 4194304)), (by first | rfl | (simp; done) | (simp [*]; done)), H', ⟨by have := HJ3.out; first | omega | exact Nat.le_refl _⟩, ⟨by repeat (first | (with_reducible first | exact HB.out | apply below_alloc | apply pw_below_drewN | apply below_drew1) | exact HB.out)⟩⟩
       ·
        rw [if_neg c23] at H
        have c23b0 : (t310 == 0) = false := beq_eq_false_iff_ne.mpr c23
        have c23b1 : (t310 != 0) = true := bne_iff_ne.mpr c23
        have H' := Aside0.mk H
        clear H
        go_wp2
        go_meet
        case rel => exact ⟨_, (true), (by first | rfl | (simp; done) | (simp [*]; done)), H', ⟨by have := HJ3.out; first | omega | exact Nat.le_refl _⟩, ⟨by repeat (first | (with_reducible first | exact HB.out | apply below_alloc | apply pw_below_drewN | apply below_drew1) | exact HB.out)⟩⟩
      ·
       rw [if_neg c22] at H
       have c22b0 : (t308 == 0) = false := beq_eq_false_iff_ne.mpr c22
       have c22b1 : (t308 != 0) = true := bne_iff_ne.mpr c22
       have H' := Aside0.mk H
       clear H
       go_wp2
       go_meet
       case rel => exact ⟨_, (true), (by first | rfl | (simp; done) | (simp [*]; done)), H', ⟨by have := HJ3.out; first | omega | exact Nat.le_refl _⟩, ⟨by repeat (first | (with_reducible first | exact HB.out | apply below_alloc | apply pw_below_drewN | apply below_drew1) | exact HB.out)⟩⟩
     ·
      rw [if_neg c21] at H
      have c21b0 : (t306 == 0) = false := beq_eq_false_iff_ne.mpr c21
      have c21b1 : (t306 != 0) = true := bne_iff_ne.mpr c21
      (first | rw [c21b0] | (simp only [i64_w, i32_w]; rw [c21b0]) | skip)
      have H' := Aside0.mk H
      clear H
      go_wp2
      go_meet
      case rel => exact ⟨_, (true), (by first | rfl | (simp; done) | (simp [*]; done)), H', ⟨by have := HJ3.out; first | omega | exact Nat.le_refl _⟩, ⟨by repeat (first | (with_reducible first | exact HB.out | apply below_alloc | apply pw_below_drewN | apply below_drew1) | exact HB.out)⟩⟩
    case rest =>
     clear HC17
     try clear c1
     try clear c2
     try clear p2
     try clear c6
     try clear c6b0
     try clear c6b1
     try clear p6
     try clear c7
     try clear c7b0
     try clear c8
     try clear c11
     try clear c12
     try clear c13
     try clear c14
     try clear c21
     try clear c21b0
     try clear c21b1
     try clear c22
     try clear c22b0
     try clear c22b1
     try clear c23
     try clear c23b0
     try clear c23b1
     try clear c24
     try clear c24b0
     try clear c25
     try clear c25b0
     try clear c26
     try clear c26b0
     try clear p2
     obtain ⟨kq, x74_16, rfl, HA, HJ16, HB⟩ := hcut
     cases kq with
     | zero => exact absurd HA.out (by simp [dancestudiolaw14_TempoInverse.j1])
     | succ kj16 =>
      have H := HA.out
      clear HA
      simp only [dancestudiolaw14_TempoInverse.j1] at H
      by_cases c27 : x74_16 = true
      ·
       subst c27
       have H1 : (some false) = some r := by rw [if_pos rfl] at H; exact H
       clear H
       have H := H1
       clear H1
       obtain rfl := Option.some.inj H
       go_wp2
       go_ret
       exact ⟨by first | rfl | (simp [errW_none, errW_some] <;> rfl) | (simp [*, errW_none, errW_some] <;> rfl), by repeat (first | (with_reducible first | exact HB.out | apply below_alloc | apply pw_below_drewN | apply below_drew1) | exact HB.out)⟩
      ·
       replace c27 := Bool.eq_false_iff.mpr c27
       subst c27
       have H1 : (dancestudiolaw14_TempoInverse.l0 kj16 l0 a1 a2 t305 t307 t309 0 0) = some r := by rw [if_neg (show ¬ (false = true) by decide)] at H; exact H
       clear H
       have H := H1
       clear H1
       have H' := Aside0.mk H
       clear H
       go_wp2
       go_loopg [13, 14] kj16 (fun kq v13 v14 w' => ∃ (x13_3 : Int) (x14_3 : Int), v13 = .int .i64 x13_3 ∧ v14 = .int .i64 x14_3 ∧ Aside0 (dancestudiolaw14_TempoInverse.l0 kq l0 a1 a2 t305 t307 t309 x13_3 x14_3 = some r) ∧ Aside0 (kq ≤ kj16) ∧ Aside0 (Below w.heap.size w w'))
       case atStart => exact ⟨(0), (0), (by first | rfl | (simp; done) | (simp [*]; done)), (by first | rfl | (simp; done) | (simp [*]; done)), H', ⟨Nat.le_refl _⟩, ⟨by repeat (first | (with_reducible first | exact HB.out | apply below_alloc | apply pw_below_drewN | apply below_drew1) | exact HB.out)⟩⟩
       case round =>
        clear H'
        try clear c1
        try clear c2
        try clear p2
        try clear c6
        try clear c6b0
        try clear c6b1
        try clear p6
        try clear c7
        try clear c7b0
        try clear c8
        try clear c11
        try clear c12
        try clear c13
        try clear c14
        try clear c21
        try clear c21b0
        try clear c21b1
        try clear c22
        try clear c22b0
        try clear c22b1
        try clear c23
        try clear c23b0
        try clear c23b1
        try clear c24
        try clear c24b0
        try clear c25
        try clear c25b0
        try clear c26
        try clear c26b0
        try clear c27
        try clear p2
        try clear p6
        obtain ⟨x13_3, x14_3, rfl, rfl, HA, HK3, HB⟩ := hrel
        cases gk with
        | zero => exact absurd HA.out (by simp [dancestudiolaw14_TempoInverse.l0])
        | succ k3 =>
         have H := HA.out
         clear HA
         simp only [dancestudiolaw14_TempoInverse.l0] at H
         by_cases c28 : x14_3 < (l0.length : Int)
         ·
          rw [if_pos c28] at H
          have c28b0 : decide (x14_3 < (l0.length : Int)) = true := decide_eq_true c28
          clear c28
          by_cases c29 : 0 ≤ x14_3
          ·
           rw [if_pos c29] at H
           have c29b0 : decide (0 ≤ x14_3) = true := decide_eq_true c29
           clear c29
           by_cases c30 : ((rd_T38 l0 x14_3).f0) ≤ a1
           ·
            rw [if_pos c30] at H
            have c30b0 : decide (((rd_T38 l0 x14_3).f0) ≤ a1) = true := decide_eq_true c30
            clear c30
            have H' := Aside0.mk H
            clear H
            have p311 : 0 ≤ (x14_3 : Int) := of_decide_eq_true (by first | (with_reducible assumption) | assumption)
            have q311 : x14_3 < (l0.length : Int) := of_decide_eq_true (by first | (with_reducible assumption) | assumption)
            obtain ⟨ad311, e311, hx311_0, hx311_1⟩ := at_T38 HR0.out x14_3 p311 q311
            cases e311
            replace hx311_0 := (HB.out.cell (World.block_lt_of_cell? w _ hx311_0)).trans hx311_0
            replace hx311_1 := (HB.out.cell (World.block_lt_of_cell? w _ hx311_1)).trans hx311_1
            replace p311 := eq_true p311
            replace q311 := eq_true q311
            have p312 : 0 ≤ (x14_3 : Int) := of_decide_eq_true (by first | (with_reducible assumption) | assumption)
            have q312 : x14_3 < (l0.length : Int) := of_decide_eq_true (by first | (with_reducible assumption) | assumption)
            obtain ⟨ad312, e312, hx312_0, hx312_1⟩ := at_T38 HR0.out x14_3 p312 q312
            obtain rfl : ad311 = ad312 := (by injection e312)
            replace hx312_0 := (HB.out.cell (World.block_lt_of_cell? w _ hx312_0)).trans hx312_0
            replace hx312_1 := (HB.out.cell (World.block_lt_of_cell? w _ hx312_1)).trans hx312_1
            replace p312 := eq_true p312
            replace q312 := eq_true q312
            go_wp2
            go_roundg k3
            case measure => have := HJ3.out; have := HJ16.out; have := HK3.out; omega
            case rel => exact ⟨((rd_T38 l0 x14_3).f1), (wrap64 (x14_3 + 1)), (by first | rfl | (simp; done) | (simp [*]; done)), (by first | rfl | (simp; done) | (simp [*]; done)), H', ⟨by have := HJ3.out; have := HJ16.out; have := HK3.out; omega⟩, ⟨by repeat (first | (with_reducible first | exact HB.out | apply below_alloc | apply pw_below_drewN | apply below_drew1) | exact HB.out)⟩⟩
           ·
            rw [if_neg c30] at H
            have c30b0 : decide (((rd_T38 l0 x14_3).f0) ≤ a1) = false := decide_eq_false c30
            clear c30
            have H' := Aside0.mk H
            clear H
            have p311 : 0 ≤ (x14_3 : Int) := of_decide_eq_true (by first | (with_reducible assumption) | assumption)
            have q311 : x14_3 < (l0.length : Int) := of_decide_eq_true (by first | (with_reducible assumption) | assumption)
            obtain ⟨ad311, e311, hx311_0, hx311_1⟩ := at_T38 HR0.out x14_3 p311 q311
            cases e311
            replace hx311_0 := (HB.out.cell (World.block_lt_of_cell? w _ hx311_0)).trans hx311_0
            replace hx311_1 := (HB.out.cell (World.block_lt_of_cell? w _ hx311_1)).trans hx311_1
            replace p311 := eq_true p311
            replace q311 := eq_true q311
            go_wp2
            go_roundg k3
            case measure => have := HJ3.out; have := HJ16.out; have := HK3.out; omega
            case rel => exact ⟨(x13_3), (wrap64 (x14_3 + 1)), (by first | rfl | (simp; done) | (simp [*]; done)), (by first | rfl | (simp; done) | (simp [*]; done)), H', ⟨by have := HJ3.out; have := HJ16.out; have := HK3.out; omega⟩, ⟨by repeat (first | (with_reducible first | exact HB.out | apply below_alloc | apply pw_below_drewN | apply below_drew1) | exact HB.out)⟩⟩
          ·
           rw [if_neg c29] at H
           exact absurd H (by simp)
         ·
          rw [if_neg c28] at H
          have c28b0 : decide (x14_3 < (l0.length : Int)) = false := decide_eq_false c28
          clear c28
          have HC31 := Aside0.mk H
          clear H
          go_upto_region 14 with (fail)
          go_cut [126] (fun v126 wc => ∃ (kq : Nat) (x126_30 : Bool), v126 = .bool x126_30 ∧ Aside0 (dancestudiolaw14_TempoInverse.j3 kq l0 a1 a2 t305 t307 x126_30 = some r) ∧ Aside0 (kq ≤ k3) ∧ Aside0 (Below w.heap.size w wc))
          case first =>
           have H := HC31.out
           clear HC31
           by_cases c32 : (wrap64 (t307 - t305)) = x13_3
           ·
            rw [if_pos c32] at H
            have c32b0 : ((wrap64 (t307 - t305)) == x13_3) = true := beq_iff_eq.mpr c32
            have c32b1 : ((wrap64 (t307 - t305)) != x13_3) = false := bne_eq_false_iff_eq.mpr c32
            clear c32
            (first | rw [c32b0] | (simp only [i64_w, i32_w]; rw [c32b0]) | skip)
            replace H := Option.bind_eq_some_iff.mp H
            obtain ⟨t313, A330, H⟩ := H
            replace H : (if t313 = true then ((dancestudiolaw14_back.f k3 l0 t307 (wrap64 (a1 + 1))).bind fun t314 => (if t314 = true then ((dancestudiolaw14_back.f k3 l0 (wrap64 (t307 - 1)) a1).bind fun t315 => (if t315 = true then ((dancestudiolaw14_back.f k3 l0 t309 8192).bind fun t316 => (dancestudiolaw14_TempoInverse.j3 k3 l0 a1 a2 t305 t307 (!t316))) else (dancestudiolaw14_TempoInverse.j3 k3 l0 a1 a2 t305 t307 true))) else (dancestudiolaw14_TempoInverse.j3 k3 l0 a1 a2 t305 t307 true))) else (dancestudiolaw14_TempoInverse.j3 k3 l0 a1 a2 t305 t307 true)) = some r := H
            have A33 := Aside0.mk A330
            clear A330
            by_cases c34 : t313 = true
            ·
             subst c34
             have H1 : ((dancestudiolaw14_back.f k3 l0 t307 (wrap64 (a1 + 1))).bind fun t314 => (if t314 = true then ((dancestudiolaw14_back.f k3 l0 (wrap64 (t307 - 1)) a1).bind fun t315 => (if t315 = true then ((dancestudiolaw14_back.f k3 l0 t309 8192).bind fun t316 => (dancestudiolaw14_TempoInverse.j3 k3 l0 a1 a2 t305 t307 (!t316))) else (dancestudiolaw14_TempoInverse.j3 k3 l0 a1 a2 t305 t307 true))) else (dancestudiolaw14_TempoInverse.j3 k3 l0 a1 a2 t305 t307 true))) = some r := by rw [if_pos rfl] at H; exact H
             clear H
             have H := H1
             clear H1
             replace H := Option.bind_eq_some_iff.mp H
             obtain ⟨t314, A350, H⟩ := H
             replace H : (if t314 = true then ((dancestudiolaw14_back.f k3 l0 (wrap64 (t307 - 1)) a1).bind fun t315 => (if t315 = true then ((dancestudiolaw14_back.f k3 l0 t309 8192).bind fun t316 => (dancestudiolaw14_TempoInverse.j3 k3 l0 a1 a2 t305 t307 (!t316))) else (dancestudiolaw14_TempoInverse.j3 k3 l0 a1 a2 t305 t307 true))) else (dancestudiolaw14_TempoInverse.j3 k3 l0 a1 a2 t305 t307 true)) = some r := H
             have A35 := Aside0.mk A350
             clear A350
             by_cases c36 : t314 = true
             ·
              subst c36
              have H1 : ((dancestudiolaw14_back.f k3 l0 (wrap64 (t307 - 1)) a1).bind fun t315 => (if t315 = true then ((dancestudiolaw14_back.f k3 l0 t309 8192).bind fun t316 => (dancestudiolaw14_TempoInverse.j3 k3 l0 a1 a2 t305 t307 (!t316))) else (dancestudiolaw14_TempoInverse.j3 k3 l0 a1 a2 t305 t307 true))) = some r := by rw [if_pos rfl] at H; exact H
              clear H
              have H := H1
              clear H1
              replace H := Option.bind_eq_some_iff.mp H
              obtain ⟨t315, A370, H⟩ := H
              replace H : (if t315 = true then ((dancestudiolaw14_back.f k3 l0 t309 8192).bind fun t316 => (dancestudiolaw14_TempoInverse.j3 k3 l0 a1 a2 t305 t307 (!t316))) else (dancestudiolaw14_TempoInverse.j3 k3 l0 a1 a2 t305 t307 true)) = some r := H
              have A37 := Aside0.mk A370
              clear A370
              by_cases c38 : t315 = true
              ·
               subst c38
               have H1 : ((dancestudiolaw14_back.f k3 l0 t309 8192).bind fun t316 => (dancestudiolaw14_TempoInverse.j3 k3 l0 a1 a2 t305 t307 (!t316))) = some r := by rw [if_pos rfl] at H; exact H
               clear H
               have H := H1
               clear H1
               replace H := Option.bind_eq_some_iff.mp H
               obtain ⟨t316, A390, H⟩ := H
               replace H : (dancestudiolaw14_TempoInverse.j3 k3 l0 a1 a2 t305 t307 (!t316)) = some r := H
               have A39 := Aside0.mk A390
               clear A390
               have H' := Aside0.mk H
               clear H
               go_wp2_with (first | (go_at_call 25; (with_reducible refine (dancestudiolaw14_back.calls k3 _ _ l0 t305 a1 true _ ?side1 ?side2 A33.out).mono ?_); (case side1 => repeat (first | exact (Kd.C_below HR0.out HB.out) | (with_reducible refine Kd.C_alloc ?_ _) | (with_reducible refine Kd.C_drewN ?_ _) | (with_reducible refine Kd.C_drew ?_))); (case side2 => exact HC0.out); rintro e w40 ⟨rfl, hb⟩; have n0_ := Aside0.mk (below_step (by repeat (first | (with_reducible first | exact HB.out | apply below_alloc | apply pw_below_drewN | apply below_drew1) | exact HB.out)) hb); clear HB; have HB := n0_; clear n0_; (try clear hb); (try clear hb2); (try clear hk); (try clear hi)) | (go_at_call 25; (with_reducible refine (dancestudiolaw14_back.calls k3 _ _ l0 t307 (wrap64 (a1 + 1)) true _ ?side1 ?side2 A35.out).mono ?_); (case side1 => repeat (first | exact (Kd.C_below HR0.out HB.out) | (with_reducible refine Kd.C_alloc ?_ _) | (with_reducible refine Kd.C_drewN ?_ _) | (with_reducible refine Kd.C_drew ?_))); (case side2 => exact HC0.out); rintro e w41 ⟨rfl, hb⟩; have n0_ := Aside0.mk (below_step (by repeat (first | (with_reducible first | exact HB.out | apply below_alloc | apply pw_below_drewN | apply below_drew1) | exact HB.out)) hb); clear HB; have HB := n0_; clear n0_; (try clear hb); (try clear hb2); (try clear hk); (try clear hi)) | (go_at_call 25; (with_reducible refine (dancestudiolaw14_back.calls k3 _ _ l0 (wrap64 (t307 - 1)) a1 true _ ?side1 ?side2 A37.out).mono ?_); (case side1 => repeat (first | exact (Kd.C_below HR0.out HB.out) | (with_reducible refine Kd.C_alloc ?_ _) | (with_reducible refine Kd.C_drewN ?_ _) | (with_reducible refine Kd.C_drew ?_))); (case side2 => exact HC0.out); rintro e w42 ⟨rfl, hb⟩; have n0_ := Aside0.mk (below_step (by repeat (first | (with_reducible first | exact HB.out | apply below_alloc | apply pw_below_drewN | apply below_drew1) | exact HB.out)) hb); clear HB; have HB := n0_; clear n0_; (try clear hb); (try clear hb2); (try clear hk); (try clear hi)) | (go_at_call 25; (with_reducible refine (dancestudiolaw14_back.calls k3 _ _ l0 t309 8192 t316 _ ?side1 ?side2 A39.out).mono ?_); (case side1 => repeat (first | exact (Kd.C_below HR0.out HB.out) | (with_reducible refine Kd.C_alloc ?_ _) | (with_reducible refine Kd.C_drewN ?_ _) | (with_reducible refine Kd.C_drew ?_))); (case side2 => exact HC0.out); rintro e w43 ⟨rfl, hb⟩; have n0_ := Aside0.mk (below_step (by repeat (first | (with_reducible first | exact HB.out | apply below_alloc | apply pw_below_drewN | apply below_drew1) | exact HB.out)) hb); clear HB; have HB := n0_; clear n0_; (try clear hb); (try clear hb2); (try clear hk); (try clear hi)))
               go_meet
               case rel => exact ⟨_, (!t316), (by first | rfl | (simp; done) | (simp [*]; done)), H', ⟨by have := HJ3.out; have := HJ16.out; have := HK3.out; first | omega | exact Nat.le_refl _⟩, ⟨by repeat (first | (with_reducible first | exact HB.out | apply below_alloc | apply pw_below_drewN | apply below_drew1) | exact HB.out)⟩⟩
              ·
               replace c38 := Bool.eq_false_iff.mpr c38
               subst c38
               have H1 : (dancestudiolaw14_TempoInverse.j3 k3 l0 a1 a2 t305 t307 true) = some r := by rw [if_neg (show ¬ (false = true) by decide)] at H; exact H
               clear H
               have H := H1
               clear H1
               have H' := Aside0.mk H
               clear H
               go_wp2_with (first | (go_at_call 25; (with_reducible refine (dancestudiolaw14_back.calls k3 _ _ l0 t305 a1 true _ ?side1 ?side2 A33.out).mono ?_); (case side1 => repeat (first | exact (Kd.C_below HR0.out HB.out) | (with_reducible refine Kd.C_alloc ?_ _) | (with_reducible refine Kd.C_drewN ?_ _) | (with_reducible refine Kd.C_drew ?_))); (case side2 => exact HC0.out); rintro e w44 ⟨rfl, hb⟩; have n0_ := Aside0.mk (below_step (by repeat (first | (with_reducible first | exact HB.out | apply below_alloc | apply pw_below_drewN | apply below_drew1) | exact HB.out)) hb); clear HB; have HB := n0_; clear n0_; (try clear hb); (try clear hb2); (try clear hk); (try clear hi)) | (go_at_call 25; (with_reducible refine (dancestudiolaw14_back.calls k3 _ _ l0 t307 (wrap64 (a1 + 1)) true _ ?side1 ?side2 A35.out).mono ?_); (case side1 => repeat (first | exact (Kd.C_below HR0.out HB.out) | (with_reducible refine Kd.C_alloc ?_ _) | (with_reducible refine Kd.C_drewN ?_ _) | (with_reducible refine Kd.C_drew ?_))); (case side2 => exact HC0.out); rintro e w45 ⟨rfl, hb⟩; have n0_ := Aside0.mk (below_step (by repeat (first | (with_reducible first | exact HB.out | apply below_alloc | apply pw_below_drewN | apply below_drew1) | exact HB.out)) hb); clear HB; have HB := n0_; clear n0_; (try clear hb); (try clear hb2); (try clear hk); (try clear hi)) | (go_at_call 25; (with_reducible refine (dancestudiolaw14_back.calls k3 _ _ l0 (wrap64 (t307 - 1)) a1 false _ ?side1 ?side2 A37.out).mono ?_); (case side1 => repeat (first | exact (Kd.C_below HR0.out HB.out) | (with_reducible refine Kd.C_alloc ?_ _) | (with_reducible refine Kd.C_drewN ?_ _) | (with_reducible refine Kd.C_drew ?_))); (case side2 => exact HC0.out); rintro e w46 ⟨rfl, hb⟩; have n0_ := Aside0.mk (below_step (by repeat (first | (with_reducible first | exact HB.out | apply below_alloc | apply pw_below_drewN | apply below_drew1) | exact HB.out)) hb); clear HB; have HB := n0_; clear n0_; (try clear hb); (try clear hb2); (try clear hk); (try clear hi)))
               go_meet
               case rel => exact ⟨_, (true), (by first | rfl | (simp; done) | (simp [*]; done)), H', ⟨by have := HJ3.out; have := HJ16.out; have := HK3.out; first | omega | exact Nat.le_refl _⟩, ⟨by repeat (first | (with_reducible first | exact HB.out | apply below_alloc | apply pw_below_drewN | apply below_drew1) | exact HB.out)⟩⟩
             ·
              replace c36 := Bool.eq_false_iff.mpr c36
              subst c36
              have H1 : (dancestudiolaw14_TempoInverse.j3 k3 l0 a1 a2 t305 t307 true) = some r := by rw [if_neg (show ¬ (false = true) by decide)] at H; exact H
              clear H
              have H := H1
              clear H1
              have H' := Aside0.mk H
              clear H
              go_wp2_with (first | (go_at_call 25; (with_reducible refine (dancestudiolaw14_back.calls k3 _ _ l0 t305 a1 true _ ?side1 ?side2 A33.out).mono ?_); (case side1 => repeat (first | exact (Kd.C_below HR0.out HB.out) | (with_reducible refine Kd.C_alloc ?_ _) | (with_reducible refine Kd.C_drewN ?_ _) | (with_reducible refine Kd.C_drew ?_))); (case side2 => exact HC0.out); rintro e w47 ⟨rfl, hb⟩; have n0_ := Aside0.mk (below_step (by repeat (first | (with_reducible first | exact HB.out | apply below_alloc | apply pw_below_drewN | apply below_drew1) | exact HB.out)) hb); clear HB; have HB := n0_; clear n0_; (try clear hb); (try clear hb2); (try clear hk); (try clear hi)) | (go_at_call 25; (with_reducible refine (dancestudiolaw14_back.calls k3 _ _ l0 t307 (wrap64 (a1 + 1)) false _ ?side1 ?side2 A35.out).mono ?_); (case side1 => repeat (first | exact (Kd.C_below HR0.out HB.out) | (with_reducible refine Kd.C_alloc ?_ _) | (with_reducible refine Kd.C_drewN ?_ _) | (with_reducible refine Kd.C_drew ?_))); (case side2 => exact HC0.out); rintro e w48 ⟨rfl, hb⟩; have n0_ := Aside0.mk (below_step (by repeat (first | (with_reducible first | exact HB.out | apply below_alloc | apply pw_below_drewN | apply below_drew1) | exact HB.out)) hb); clear HB; have HB := n0_; clear n0_; (try clear hb); (try clear hb2); (try clear hk); (try clear hi)))
              go_meet
              case rel => exact ⟨_, (true), (by first | rfl | (simp; done) | (simp [*]; done)), H', ⟨by have := HJ3.out; have := HJ16.out; have := HK3.out; first | omega | exact Nat.le_refl _⟩, ⟨by repeat (first | (with_reducible first | exact HB.out | apply below_alloc | apply pw_below_drewN | apply below_drew1) | exact HB.out)⟩⟩
            ·
             replace c34 := Bool.eq_false_iff.mpr c34
             subst c34
             have H1 : (dancestudiolaw14_TempoInverse.j3 k3 l0 a1 a2 t305 t307 true) = some r := by rw [if_neg (show ¬ (false = true) by decide)] at H; exact H
             clear H
             have H := H1
             clear H1
             have H' := Aside0.mk H
             clear H
             go_wp2_with (first | (go_at_call 25; (with_reducible refine (dancestudiolaw14_back.calls k3 _ _ l0 t305 a1 false _ ?side1 ?side2 A33.out).mono ?_); (case side1 => repeat (first | exact (Kd.C_below HR0.out HB.out) | (with_reducible refine Kd.C_alloc ?_ _) | (with_reducible refine Kd.C_drewN ?_ _) | (with_reducible refine Kd.C_drew ?_))); (case side2 => exact HC0.out); rintro e w49 ⟨rfl, hb⟩; have n0_ := Aside0.mk (below_step (by repeat (first | (with_reducible first | exact HB.out | apply below_alloc | apply pw_below_drewN | apply below_drew1) | exact HB.out)) hb); clear HB; have HB := n0_; clear n0_; (try clear hb); (try clear hb2); (try clear hk); (try clear hi)))
             go_meet
             case rel => exact ⟨_, (true), (by first | rfl | (simp; done) | (simp [*]; done)), H', ⟨by have := HJ3.out; have := HJ16.out; have := HK3.out; first | omega | exact Nat.le_refl _⟩, ⟨by repeat (first | (with_reducible first | exact HB.out | apply below_alloc | apply pw_below_drewN | apply below_drew1) | exact HB.out)⟩⟩
           ·
            rw [if_neg c32] at H
            have c32b0 : ((wrap64 (t307 - t305)) == x13_3) = false := beq_eq_false_iff_ne.mpr c32
            have c32b1 : ((wrap64 (t307 - t305)) != x13_3) = true := bne_iff_ne.mpr c32
            (first | rw [c32b0] | (simp only [i64_w, i32_w]; rw [c32b0]) | skip)
            have H' := Aside0.mk H
            clear H
            go_wp2
            go_meet
            case rel => exact ⟨_, (true), (by first | rfl | (simp; done) | (simp [*]; done)), H', ⟨by have := HJ3.out; have := HJ16.out; have := HK3.out; first | omega | exact Nat.le_refl _⟩, ⟨by repeat (first | (with_reducible first | exact HB.out | apply below_alloc | apply pw_below_drewN | apply below_drew1) | exact HB.out)⟩⟩
          case rest =>
           clear HC31
           try clear c1
           try clear c2
           try clear p2
           try clear c3
           try clear p3
           try clear q3
           try clear hx3
           try clear c6
           try clear c6b0
           try clear c6b1
           try clear p6
           try clear c7
           try clear c7b0
           try clear c8
           try clear c11
           try clear c12
           try clear c13
           try clear c14
           try clear c21
           try clear c21b0
           try clear c21b1
           try clear c22
           try clear c22b0
           try clear c22b1
           try clear c23
           try clear c23b0
           try clear c23b1
           try clear c24
           try clear c24b0
           try clear c25
           try clear c25b0
           try clear c26
           try clear c26b0
           try clear c27
           try clear c28
           try clear c28b0
           try clear c29
           try clear c29b0
           try clear c30
           try clear c30b0
           try clear p31
           try clear q31
           try clear hx31
           try clear c32
           try clear c32b0
           try clear c32b1
           try clear c34
           try clear c36
           try clear c38
           try clear hx311_0
           try clear hx311_1
           try clear hx312_0
           try clear hx312_1
           try clear p2
           try clear p311
           try clear p312
           try clear p6
           try clear q311
           try clear q312
           obtain ⟨kq, x126_30, rfl, HA, HJ30, HB⟩ := hcut
           cases kq with
           | zero => exact absurd HA.out (by simp [dancestudiolaw14_TempoInverse.j3])
           | succ kj30 =>
            have H := HA.out
            clear HA
            simp only [dancestudiolaw14_TempoInverse.j3] at H
            by_cases c50 : x126_30 = true
            ·
             subst c50
             have H1 : (some false) = some r := by rw [if_pos rfl] at H; exact H
             clear H
             have H := H1
             clear H1
             obtain rfl := Option.some.inj H
             go_wp2
             go_ret
             exact ⟨by first | rfl | (simp [errW_none, errW_some] <;> rfl) | (simp [*, errW_none, errW_some] <;> rfl), by repeat (first | (with_reducible first | exact HB.out | apply below_alloc | apply pw_below_drewN | apply below_drew1) | exact HB.out)⟩
            ·
             replace c50 := Bool.eq_false_iff.mpr c50
             subst c50
             have H1 : (if a2 ≥ 0 then (if a2 < (wrap64 (t307 - t305)) then ((dancestudiolaw14_back.f kj30 l0 (wrap64 (t305 + a2)) a1).bind fun t317 => (dancestudiolaw14_TempoInverse.j4 kj30 l0 (!t317))) else (dancestudiolaw14_TempoInverse.j4 kj30 l0 false)) else (dancestudiolaw14_TempoInverse.j4 kj30 l0 false)) = some r := by rw [if_neg (show ¬ (false = true) by decide)] at H; exact H
             clear H
             have H := H1
             clear H1
             have HC51 := Aside0.mk H
             clear H
             go_upto_region 16 with (fail)
             go_cut [144] (fun v144 wc => ∃ (kq : Nat) (x144_50 : Bool), v144 = .bool x144_50 ∧ Aside0 (dancestudiolaw14_TempoInverse.j4 kq l0 x144_50 = some r) ∧ Aside0 (kq ≤ kj30) ∧ Aside0 (Below w.heap.size w wc))
             case first =>
              have H := HC51.out
              clear HC51
              by_cases c52 : a2 ≥ 0
              ·
               rw [if_pos c52] at H
               have c52b0 : decide (0 ≤ a2) = true := decide_eq_true c52
               clear c52
               (first | rw [c52b0] | (simp only [i64_w, i32_w]; rw [c52b0]) | skip)
               by_cases c53 : a2 < (wrap64 (t307 - t305))
               ·
                rw [if_pos c53] at H
                have c53b0 : decide (a2 < (wrap64 (t307 - t305))) = true := decide_eq_true c53
                clear c53
                replace H := Option.bind_eq_some_iff.mp H
                obtain ⟨t317, A540, H⟩ := H
                replace H : (dancestudiolaw14_TempoInverse.j4 kj30 l0 (!t317)) = some r := H
                have A54 := Aside0.mk A540
                clear A540
                have H' := Aside0.mk H
                clear H
                go_wp2_with (first | (go_at_call 25; (with_reducible refine (dancestudiolaw14_back.calls kj30 _ _ l0 (wrap64 (t305 + a2)) a1 t317 _ ?side1 ?side2 A54.out).mono ?_); (case side1 => repeat (first | exact (Kd.C_below HR0.out HB.out) | (with_reducible refine Kd.C_alloc ?_ _) | (with_reducible refine Kd.C_drewN ?_ _) | (with_reducible refine Kd.C_drew ?_))); (case side2 => exact HC0.out); rintro e w55 ⟨rfl, hb⟩; have n0_ := Aside0.mk (below_step (by repeat (first | (with_reducible first | exact HB.out | apply below_alloc | apply pw_below_drewN | apply below_drew1) | exact HB.out)) hb); clear HB; have HB := n0_; clear n0_; (try clear hb); (try clear hb2); (try clear hk); (try clear hi)))
                go_meet
                case rel => exact ⟨_, (!t317), (by first | rfl | (simp; done) | (simp [*]; done)), H', ⟨by have := HJ3.out; have := HJ16.out; have := HK3.out; have := HJ30.out; first | omega | exact Nat.le_refl _⟩, ⟨by repeat (first | (with_reducible first | exact HB.out | apply below_alloc | apply pw_below_drewN | apply below_drew1) | exact HB.out)⟩⟩
               ·
                rw [if_neg c53] at H
                have c53b0 : decide (a2 < (wrap64 (t307 - t305))) = false := decide_eq_false c53
                clear c53
                have H' := Aside0.mk H
                clear H
                go_wp2
                go_meet
                case rel => exact ⟨_, (false), (by first | rfl | (simp; done) | (simp [*]; done)), H', ⟨by have := HJ3.out; have := HJ16.out; have := HK3.out; have := HJ30.out; first | omega | exact Nat.le_refl _⟩, ⟨by repeat (first | (with_reducible first | exact HB.out | apply below_alloc | apply pw_below_drewN | apply below_drew1) | exact HB.out)⟩⟩
              ·
               rw [if_neg c52] at H
               have c52b0 : decide (0 ≤ a2) = false := decide_eq_false c52
               clear c52
               (first | rw [c52b0] | (simp only [i64_w, i32_w]; rw [c52b0]) | skip)
               have H' := Aside0.mk H
               clear H
               go_wp2
               go_meet
               case rel => exact ⟨_, (false), (by first | rfl | (simp; done) | (simp [*]; done)), H', ⟨by have := HJ3.out; have := HJ16.out; have := HK3.out; have := HJ30.out; first | omega | exact Nat.le_refl _⟩, ⟨by repeat (first | (with_reducible first | exact HB.out | apply below_alloc | apply pw_below_drewN | apply below_drew1) | exact HB.out)⟩⟩
             case rest =>
              clear HC51
              try clear c1
              try clear c2
              try clear p2
              try clear c3
              try clear p3
              try clear q3
              try clear hx3
              try clear c5
              try clear c6
              try clear c6b0
              try clear c6b1
              try clear p6
              try clear c7
              try clear c7b0
              try clear c8
              try clear c11
              try clear c12
              try clear c13
              try clear c14
              try clear c21
              try clear c21b0
              try clear c21b1
              try clear c22
              try clear c22b0
              try clear c22b1
              try clear c23
              try clear c23b0
              try clear c23b1
              try clear c24
              try clear c24b0
              try clear c25
              try clear c25b0
              try clear c26
              try clear c26b0
              try clear c27
              try clear c28
              try clear c28b0
              try clear c29
              try clear c29b0
              try clear c30
              try clear c30b0
              try clear p31
              try clear q31
              try clear hx31
              try clear c32
              try clear c32b0
              try clear c32b1
              try clear c34
              try clear c36
              try clear c38
              try clear c50
              try clear c52
              try clear c52b0
              try clear c53
              try clear c53b0
              try clear hx311_0
              try clear hx311_1
              try clear hx312_0
              try clear hx312_1
              try clear p2
              try clear p3
              try clear p31
              try clear p311
              try clear p312
              try clear p6
              try clear q3
              try clear q31
              try clear q311
              try clear q312
              obtain ⟨kq, x144_50, rfl, HA, HJ50, HB⟩ := hcut
              cases kq with
              | zero => exact absurd HA.out (by simp [dancestudiolaw14_TempoInverse.j4])
              | succ kj50 =>
               have H := HA.out
               clear HA
               simp only [dancestudiolaw14_TempoInverse.j4] at H
               by_cases c56 : x144_50 = true
               ·
                subst c56
                have H1 : (some false) = some r := by rw [if_pos rfl] at H; exact H
                clear H
                have H := H1
                clear H1
                obtain rfl := Option.some.inj H
                go_wp2
                go_ret
                exact ⟨by first | rfl | (simp [errW_none, errW_some] <;> rfl) | (simp [*, errW_none, errW_some] <;> rfl), by repeat (first | (with_reducible first | exact HB.out | apply below_alloc | apply pw_below_drewN | apply below_drew1) | exact HB.out)⟩
               ·
                replace c56 := Bool.eq_false_iff.mpr c56
                subst c56
                have H1 : ((dancestudiolaw14_when.f kj50 l0 0 0).bind fun t318 => (if t318 = true then ((dancestudiolaw14_awake.f kj50).bind fun t319 => (some t319)) else (some false))) = some r := by rw [if_neg (show ¬ (false = true) by decide)] at H; exact H
                clear H
                have H := H1
                clear H1
                replace H := Option.bind_eq_some_iff.mp H
                obtain ⟨t318, A570, H⟩ := H
                replace H : (if t318 = true then ((dancestudiolaw14_awake.f kj50).bind fun t319 => (some t319)) else (some false)) = some r := H
                have A57 := Aside0.mk A570
                clear A570
                by_cases c58 : t318 = true
                ·
                 subst c58
                 have H1 : ((dancestudiolaw14_awake.f kj50).bind fun t319 => (some t319)) = some r := by rw [if_pos rfl] at H; exact H
                 clear H
                 have H := H1
                 clear H1
                 replace H := Option.bind_eq_some_iff.mp H
                 obtain ⟨t319, A590, H⟩ := H
                 replace H : (some t319) = some r := H
                 have A59 := Aside0.mk A590
                 clear A590
                 obtain rfl := Option.some.inj H
                 go_wp2_with (first | ((with_reducible refine gate_callee (f := 26) rfl ?_); refine goesL_ (some 146) rfl rfl Try.func26 (by kernel_rfl) rfl #[.slice A0 l0.length c0, .int .i64 0, .int .i64 0] rfl (by (try simp only [List.map_toArray, List.map_cons, List.map_nil]); first | done | rfl | (simp only [List.length_drop, List.length_take]; rfl)) ?_; (with_reducible refine (dancestudiolaw14_when.calls kj50 _ _ l0 0 0 true _ ?side1 ?side2 A57.out).mono ?_); (case side1 => repeat (first | exact (Kd.C_below HR0.out HB.out) | (with_reducible refine Kd.C_alloc ?_ _) | (with_reducible refine Kd.C_drewN ?_ _) | (with_reducible refine Kd.C_drew ?_))); (case side2 => exact HC0.out); rintro e w60 ⟨rfl, hb⟩; refine ⟨_, rfl, ?_⟩; have n0_ := Aside0.mk (below_step (by repeat (first | (with_reducible first | exact HB.out | apply below_alloc | apply pw_below_drewN | apply below_drew1) | exact HB.out)) hb); clear HB; have HB := n0_; clear n0_; (try clear hb); (try clear hb2); (try clear hk); (try clear hi)) | (go_at_call 13; (with_reducible refine (dancestudiolaw14_awake.calls kj50  t319 _ A59.out).mono ?_); rintro e w61 ⟨rfl, hb⟩; have n0_ := Aside0.mk (below_step (by repeat (first | (with_reducible first | exact HB.out | apply below_alloc | apply pw_below_drewN | apply below_drew1) | exact HB.out)) hb); clear HB; have HB := n0_; clear n0_; (try clear hb); (try clear hb2); (try clear hk); (try clear hi)))
                 go_ret
                 exact ⟨by first | rfl | (simp [errW_none, errW_some] <;> rfl) | (simp [*, errW_none, errW_some] <;> rfl), by repeat (first | (with_reducible first | exact HB.out | apply below_alloc | apply pw_below_drewN | apply below_drew1) | exact HB.out)⟩
                ·
                 replace c58 := Bool.eq_false_iff.mpr c58
                 subst c58
                 have H1 : (some false) = some r := by rw [if_neg (show ¬ (false = true) by decide)] at H; exact H
                 clear H
                 have H := H1
                 clear H1
                 obtain rfl := Option.some.inj H
                 go_wp2_with (first | ((with_reducible refine gate_callee (f := 26) rfl ?_); refine goesL_ (some 146) rfl rfl Try.func26 (by kernel_rfl) rfl #[.slice A0 l0.length c0, .int .i64 0, .int .i64 0] rfl (by (try simp only [List.map_toArray, List.map_cons, List.map_nil]); first | done | rfl | (simp only [List.length_drop, List.length_take]; rfl)) ?_; (with_reducible refine (dancestudiolaw14_when.calls kj50 _ _ l0 0 0 false _ ?side1 ?side2 A57.out).mono ?_); (case side1 => repeat (first | exact (Kd.C_below HR0.out HB.out) | (with_reducible refine Kd.C_alloc ?_ _) | (with_reducible refine Kd.C_drewN ?_ _) | (with_reducible refine Kd.C_drew ?_))); (case side2 => exact HC0.out); rintro e w62 ⟨rfl, hb⟩; refine ⟨_, rfl, ?_⟩; have n0_ := Aside0.mk (below_step (by repeat (first | (with_reducible first | exact HB.out | apply below_alloc | apply pw_below_drewN | apply below_drew1) | exact HB.out)) hb); clear HB; have HB := n0_; clear n0_; (try clear hb); (try clear hb2); (try clear hk); (try clear hi)))
                 go_ret
                 exact ⟨by first | rfl | (simp [errW_none, errW_some] <;> rfl) | (simp [*, errW_none, errW_some] <;> rfl), by repeat (first | (with_reducible first | exact HB.out | apply below_alloc | apply pw_below_drewN | apply below_drew1) | exact HB.out)⟩

end Go.Proofs.Ythgngebcfggcfaa.X
