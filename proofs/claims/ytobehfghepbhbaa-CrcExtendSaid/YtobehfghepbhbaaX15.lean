-- squeezed
-- written by xprint.py, an own overlay over the kit's print; not trusted: Lean checks it
import Derived.Test.YtobehfghepbhbaaX0
import Derived.Test.YtobehfghepbhbaaX1
import Derived.Test.YtobehfghepbhbaaX2
import Derived.Test.YtobehfghepbhbaaX11
namespace Go.Proofs.Ytobehfghepbhbaa.X
open Go.RowKit Go.Proofs.YtobehfghepbhbaaW.PrintWords Go.Proofs.YtobehfghepbhbaaW.PrintLast Go.Proofs.YtobehfghepbhbaaW.PrintMore
attribute [local go_sem] max2_int min2_int max_two min_two max_three min_three max_four min_four   -- for this text's walks alone
set_option linter.unusedVariables false
set_option linter.unusedSimpArgs false

/-! ### dancestudiolaw08_CrcExtend: function 4 -/
def dancestudiolaw08_CrcExtend.j0 : Nat → Int → List Int → Int → Bool → Option (Bool)
 | 0, _, _, _, _ => none
 | k + 1, x0, x1, x2, x19 => if x19 = true then ((dancestudiolaw08_awake.f k).bind fun t231 => (some t231)) else (if 0 ≤ x2 then (if x2 ≤ (x1.length : Int) then ((crc_Sum.f k (x1.take (x2 : Int).toNat)).bind fun t233 => ((crc_Extend.f k t233 (x1.drop (x2 : Int).toNat)).bind fun t235 => ((crc_Sum.f k x1).bind fun t236 => (if t235 = t236 then ((crc_Extend.f k x0 (x1.take (x2 : Int).toNat)).bind fun t238 => ((crc_Extend.f k t238 (x1.drop (x2 : Int).toNat)).bind fun t240 => ((crc_Extend.f k x0 x1).bind fun t241 => (if t240 = t241 then ((crc_Extend.f k x0 ([] : List Int)).bind fun t242 => (if t242 = x0 then ((dancestudiolaw08_awake.f k).bind fun t243 => (some t243)) else (none))) else (none))))) else (none))))) else (none)) else (none))
def dancestudiolaw08_CrcExtend.f (k : Nat) (a0 : Int) (l1 : List Int) (a2 : Int) : Option (Bool) := if (l1.length : Int) > 4096 then (dancestudiolaw08_CrcExtend.j0 k a0 l1 a2 true) else (if a2 < 0 then (dancestudiolaw08_CrcExtend.j0 k a0 l1 a2 true) else (dancestudiolaw08_CrcExtend.j0 k a0 l1 a2 (decide (a2 > (l1.length : Int)))))
theorem dancestudiolaw08_CrcExtend.mono_l : ∀ k, (∀ y0 y1 y2 y3, LeO (dancestudiolaw08_CrcExtend.j0 k y0 y1 y2 y3) (dancestudiolaw08_CrcExtend.j0 (k + 1) y0 y1 y2 y3))
 | 0 => fun _ _ _ _ r h => by simp [dancestudiolaw08_CrcExtend.j0] at h
 | k + 1 => by
  have ih0 := dancestudiolaw08_CrcExtend.mono_l k
  ·
   intro y0 y1 y2 y3
   unfold dancestudiolaw08_CrcExtend.j0
   repeat' first
   | (with_reducible exact ih0 _ _ _ _)
   | (with_reducible exact crc_Extend.mono _ _ _)
   | (with_reducible exact crc_Sum.mono _ _)
   | (with_reducible exact dancestudiolaw08_awake.mono _)
   | (with_reducible exact LeO.refl _)
   | (with_reducible exact LeO.none _)
   | (with_reducible refine LeO.ite ?_ ?_)
   | (with_reducible refine LeO.bind ?_ (fun _ => ?_))
   | exact ih0 _ _ _ _
   | exact crc_Extend.mono _ _ _
   | exact crc_Sum.mono _ _
   | exact dancestudiolaw08_awake.mono _
   | exact LeO.none _
   | refine LeO.ite ?_ ?_
   | refine LeO.bind ?_ (fun _ => ?_)
theorem dancestudiolaw08_CrcExtend.mono : ∀ a0 a1 a2 k, LeO (dancestudiolaw08_CrcExtend.f k a0 a1 a2) (dancestudiolaw08_CrcExtend.f (k + 1) a0 a1 a2) := by
 intro a0 a1 a2 k
 have ih0 := dancestudiolaw08_CrcExtend.mono_l k
 unfold dancestudiolaw08_CrcExtend.f
 repeat' first
   | (with_reducible exact ih0 _ _ _ _)
   | (with_reducible exact crc_Extend.mono _ _ _)
   | (with_reducible exact crc_Sum.mono _ _)
   | (with_reducible exact dancestudiolaw08_awake.mono _)
   | (with_reducible exact LeO.refl _)
   | (with_reducible exact LeO.none _)
   | (with_reducible refine LeO.ite ?_ ?_)
   | (with_reducible refine LeO.bind ?_ (fun _ => ?_))
   | exact ih0 _ _ _ _
   | exact crc_Extend.mono _ _ _
   | exact crc_Sum.mono _ _
   | exact dancestudiolaw08_awake.mono _
   | exact LeO.none _
   | refine LeO.ite ?_ ?_
   | refine LeO.bind ?_ (fun _ => ?_)
set_option maxHeartbeats 8000000 in
set_option maxRecDepth 100000 in
theorem dancestudiolaw08_CrcExtend.calls (k : Nat) (a0 : Int) (A1 : Option Addr) (c1 : Nat) (l1 : List Int) (a2 : Int) (r : Bool) (w : World) (hr1 : Kd.C (Kd.int .u8) w A1 l1.length l1) (hc1 : l1.length ≤ c1) (h : dancestudiolaw08_CrcExtend.f k a0 l1 a2 = some r) :
  Calls Try.prog 4 #[.int .u32 a0, .slice A1 l1.length c1, .int .i64 a2] w fun e w' => e = .returned (.bool r) ∧ Below w.heap.size w w' := by
 have HR1 := Aside0.mk hr1
 have HC1 := Aside0.mk hc1
 clear hr1 hc1
 have HB := Aside0.mk (Below.refl w.heap.size w)
 have H : (if (l1.length : Int) > 4096 then (dancestudiolaw08_CrcExtend.j0 k a0 l1 a2 true) else (if a2 < 0 then (dancestudiolaw08_CrcExtend.j0 k a0 l1 a2 true) else (dancestudiolaw08_CrcExtend.j0 k a0 l1 a2 (decide (a2 > (l1.length : Int)))))) = some r := h
 clear h
 have HC4 := Aside0.mk H
 clear H
 go_enter Try.func4, Try.ntmps4
 go_upto_region 1 with (fail)
 repeat (go_quiet (fail); go_upto_region 1 with (fail))
 go_cut [19] (fun v19 wc => ∃ (kq : Nat) (x19_3 : Bool), v19 = .bool x19_3 ∧ Aside0 (dancestudiolaw08_CrcExtend.j0 kq a0 l1 a2 x19_3 = some r) ∧ Aside0 (kq ≤ k) ∧ Aside0 (Below w.heap.size w wc))
 case first =>
  have H := HC4.out
  clear HC4
  by_cases c5 : (l1.length : Int) > 4096
  ·
   rw [if_pos c5] at H
   have c5b0 := decide_eq_true c5
   have c5b1 : decide (4096 < l1.length) = true := decide_eq_true (by omega)
   clear c5
   (first | rw [c5b0] | (simp only [i64_w, i32_w]; rw [c5b0]) | skip)
   have H' := Aside0.mk H
   clear H
   go_wp2
   repeat (go_quiet (fail); try go_wp2)
   go_meet
   case rel => exact ⟨_, (true), (by first | rfl | (simp; done) | (simp [*]; done)), H', ⟨by first | omega | exact Nat.le_refl _⟩, ⟨by repeat with_reducible first | exact HB.out | apply bA | apply bN | apply bD⟩⟩
  ·
   rw [if_neg c5] at H
   have c5b0 := decide_eq_false c5
   have c5b1 : decide (4096 < l1.length) = false := decide_eq_false (by omega)
   clear c5
   (first | rw [c5b0] | (simp only [i64_w, i32_w]; rw [c5b0]) | skip)
   by_cases c6 : a2 < 0
   ·
    rw [if_pos c6] at H
    have c6b0 := decide_eq_true c6
    clear c6
    have H' := Aside0.mk H
    clear H
    go_wp2
    repeat (go_quiet (fail); try go_wp2)
    go_meet
    case rel => exact ⟨_, (true), (by first | rfl | (simp; done) | (simp [*]; done)), H', ⟨by first | omega | exact Nat.le_refl _⟩, ⟨by repeat with_reducible first | exact HB.out | apply bA | apply bN | apply bD⟩⟩
   ·
    rw [if_neg c6] at H
    have c6b0 := decide_eq_false c6
    clear c6
    have H' := Aside0.mk H
    clear H
    go_wp2
    repeat (go_quiet (fail); try go_wp2)
    go_meet
    case rel => exact ⟨_, (decide (a2 > (l1.length : Int))), (by first | rfl | (simp; done) | (simp [*]; done)), H', ⟨by first | omega | exact Nat.le_refl _⟩, ⟨by repeat with_reducible first | exact HB.out | apply bA | apply bN | apply bD⟩⟩
 case rest =>
  clear HC4
  try clear c1
  try clear p2
  try clear c4
  try clear c5
  try clear c5b0
  try clear c5b1
  try clear c6
  try clear c6b0
  obtain ⟨kq, x19_3, rfl, HA, HJ3, HB⟩ := hcut
  cases kq with
  | zero => exact absurd HA.out (by simp [dancestudiolaw08_CrcExtend.j0])
  | succ kj3 =>
   have H := HA.out
   clear HA
   simp only [dancestudiolaw08_CrcExtend.j0] at H
   by_cases c7 : x19_3 = true
   ·
    subst c7
    have H1 : ((dancestudiolaw08_awake.f kj3).bind fun t231 => (some t231)) = some r := by rw [if_pos rfl] at H; exact H
    clear H
    have H := H1
    clear H1
    replace H := Option.bind_eq_some_iff.mp H
    obtain ⟨t231, A80, H⟩ := H
    replace H : (some t231) = some r := H
    have A8 := Aside0.mk A80
    clear A80
    obtain rfl := Option.some.inj H
    go_wp2_with (first | (go_at_call 11; (with_reducible refine (dancestudiolaw08_awake.calls kj3  t231 _ A8.out).mono ?_); rintro e w9 ⟨rfl, hb⟩; replace HB := Aside0.mk (below_step (by repeat with_reducible first | exact HB.out | apply bA | apply bN | apply bD) hb); (try clear hb); (try clear hb2); (try clear hk); (try clear hi)))
    repeat (go_quiet (first | (go_at_call 11; (with_reducible refine (dancestudiolaw08_awake.calls kj3  t231 _ A8.out).mono ?_); rintro e w9 ⟨rfl, hb⟩; replace HB := Aside0.mk (below_step (by repeat with_reducible first | exact HB.out | apply bA | apply bN | apply bD) hb); (try clear hb); (try clear hb2); (try clear hk); (try clear hi))); try go_wp2_with (first | (go_at_call 11; (with_reducible refine (dancestudiolaw08_awake.calls kj3  t231 _ A8.out).mono ?_); rintro e w9 ⟨rfl, hb⟩; replace HB := Aside0.mk (below_step (by repeat with_reducible first | exact HB.out | apply bA | apply bN | apply bD) hb); (try clear hb); (try clear hb2); (try clear hk); (try clear hi))))
    go_ret
    exact ⟨by first | rfl | (simp [errW_none, errW_some] <;> rfl) | (simp [*, errW_none, errW_some] <;> rfl), by repeat with_reducible first | exact HB.out | apply bA | apply bN | apply bD⟩
   ·
    replace c7 := Bool.eq_false_iff.mpr c7
    subst c7
    have H1 : (if 0 ≤ a2 then (if a2 ≤ (l1.length : Int) then ((crc_Sum.f kj3 (l1.take (a2 : Int).toNat)).bind fun t233 => ((crc_Extend.f kj3 t233 (l1.drop (a2 : Int).toNat)).bind fun t235 => ((crc_Sum.f kj3 l1).bind fun t236 => (if t235 = t236 then ((crc_Extend.f kj3 a0 (l1.take (a2 : Int).toNat)).bind fun t238 => ((crc_Extend.f kj3 t238 (l1.drop (a2 : Int).toNat)).bind fun t240 => ((crc_Extend.f kj3 a0 l1).bind fun t241 => (if t240 = t241 then ((crc_Extend.f kj3 a0 ([] : List Int)).bind fun t242 => (if t242 = a0 then ((dancestudiolaw08_awake.f kj3).bind fun t243 => (some t243)) else (none))) else (none))))) else (none))))) else (none)) else (none)) = some r := by rw [if_neg (show ¬ (false = true) by decide)] at H; exact H
    clear H
    have H := H1
    clear H1
    by_cases c10 : 0 ≤ a2
    ·
     rw [if_pos c10] at H
     have c10b0 := eq_true c10
     have c10b1 : decide (0 ≤ a2) = true := decide_eq_true c10
     clear c10
     by_cases c11 : a2 ≤ (l1.length : Int); rotate_left
     · rw [if_neg c11] at H; exact absurd H (by simp)
     rw [if_pos c11] at H
     have c11b0 := eq_true c11
     have c11b1 : decide (a2 ≤ (l1.length : Int)) = true := decide_eq_true c11
     clear c11
     replace H := Option.bind_eq_some_iff.mp H
     obtain ⟨t233, A120, H⟩ := H
     replace H : ((crc_Extend.f kj3 t233 (l1.drop (a2 : Int).toNat)).bind fun t235 => ((crc_Sum.f kj3 l1).bind fun t236 => (if t235 = t236 then ((crc_Extend.f kj3 a0 (l1.take (a2 : Int).toNat)).bind fun t238 => ((crc_Extend.f kj3 t238 (l1.drop (a2 : Int).toNat)).bind fun t240 => ((crc_Extend.f kj3 a0 l1).bind fun t241 => (if t240 = t241 then ((crc_Extend.f kj3 a0 ([] : List Int)).bind fun t242 => (if t242 = a0 then ((dancestudiolaw08_awake.f kj3).bind fun t243 => (some t243)) else (none))) else (none))))) else (none)))) = some r := H
     have A12 := Aside0.mk A120
     clear A120
     have c13b0 := eq_true (of_decide_eq_true (by first | (with_reducible assumption) | assumption) : 0 ≤ a2)
     have c14b0 := eq_true (of_decide_eq_true (by first | (with_reducible assumption) | assumption) : a2 ≤ (l1.length : Int))
     replace H := Option.bind_eq_some_iff.mp H
     obtain ⟨t235, A150, H⟩ := H
     replace H : ((crc_Sum.f kj3 l1).bind fun t236 => (if t235 = t236 then ((crc_Extend.f kj3 a0 (l1.take (a2 : Int).toNat)).bind fun t238 => ((crc_Extend.f kj3 t238 (l1.drop (a2 : Int).toNat)).bind fun t240 => ((crc_Extend.f kj3 a0 l1).bind fun t241 => (if t240 = t241 then ((crc_Extend.f kj3 a0 ([] : List Int)).bind fun t242 => (if t242 = a0 then ((dancestudiolaw08_awake.f kj3).bind fun t243 => (some t243)) else (none))) else (none))))) else (none))) = some r := H
     have A15 := Aside0.mk A150
     clear A150
     replace H := Option.bind_eq_some_iff.mp H
     obtain ⟨t236, A160, H⟩ := H
     replace H : (if t235 = t236 then ((crc_Extend.f kj3 a0 (l1.take (a2 : Int).toNat)).bind fun t238 => ((crc_Extend.f kj3 t238 (l1.drop (a2 : Int).toNat)).bind fun t240 => ((crc_Extend.f kj3 a0 l1).bind fun t241 => (if t240 = t241 then ((crc_Extend.f kj3 a0 ([] : List Int)).bind fun t242 => (if t242 = a0 then ((dancestudiolaw08_awake.f kj3).bind fun t243 => (some t243)) else (none))) else (none))))) else (none)) = some r := H
     have A16 := Aside0.mk A160
     clear A160
     by_cases c17 : t235 = t236; rotate_left
     · rw [if_neg c17] at H; exact absurd H (by simp)
     rw [if_pos c17] at H
     have c17b0 : (t235 == t236) = true := beq_iff_eq.mpr c17
     have c17b1 : (t235 != t236) = false := bne_eq_false_iff_eq.mpr c17
     clear c17
     have c18b0 := eq_true (of_decide_eq_true (by first | (with_reducible assumption) | assumption) : 0 ≤ a2)
     have c19b0 := eq_true (of_decide_eq_true (by first | (with_reducible assumption) | assumption) : a2 ≤ (l1.length : Int))
     replace H := Option.bind_eq_some_iff.mp H
     obtain ⟨t238, A200, H⟩ := H
     replace H : ((crc_Extend.f kj3 t238 (l1.drop (a2 : Int).toNat)).bind fun t240 => ((crc_Extend.f kj3 a0 l1).bind fun t241 => (if t240 = t241 then ((crc_Extend.f kj3 a0 ([] : List Int)).bind fun t242 => (if t242 = a0 then ((dancestudiolaw08_awake.f kj3).bind fun t243 => (some t243)) else (none))) else (none)))) = some r := H
     have A20 := Aside0.mk A200
     clear A200
     have c21b0 := eq_true (of_decide_eq_true (by first | (with_reducible assumption) | assumption) : 0 ≤ a2)
     have c22b0 := eq_true (of_decide_eq_true (by first | (with_reducible assumption) | assumption) : a2 ≤ (l1.length : Int))
     replace H := Option.bind_eq_some_iff.mp H
     obtain ⟨t240, A230, H⟩ := H
     replace H : ((crc_Extend.f kj3 a0 l1).bind fun t241 => (if t240 = t241 then ((crc_Extend.f kj3 a0 ([] : List Int)).bind fun t242 => (if t242 = a0 then ((dancestudiolaw08_awake.f kj3).bind fun t243 => (some t243)) else (none))) else (none))) = some r := H
     have A23 := Aside0.mk A230
     clear A230
     replace H := Option.bind_eq_some_iff.mp H
     obtain ⟨t241, A240, H⟩ := H
     replace H : (if t240 = t241 then ((crc_Extend.f kj3 a0 ([] : List Int)).bind fun t242 => (if t242 = a0 then ((dancestudiolaw08_awake.f kj3).bind fun t243 => (some t243)) else (none))) else (none)) = some r := H
     have A24 := Aside0.mk A240
     clear A240
     by_cases c25 : t240 = t241; rotate_left
     · rw [if_neg c25] at H; exact absurd H (by simp)
     rw [if_pos c25] at H
     have c25b0 : (t240 == t241) = true := beq_iff_eq.mpr c25
     have c25b1 : (t240 != t241) = false := bne_eq_false_iff_eq.mpr c25
     clear c25
     replace H := Option.bind_eq_some_iff.mp H
     obtain ⟨t242, A260, H⟩ := H
     replace H : (if t242 = a0 then ((dancestudiolaw08_awake.f kj3).bind fun t243 => (some t243)) else (none)) = some r := H
     have A26 := Aside0.mk A260
     clear A260
     by_cases c27 : t242 = a0; rotate_left
     · rw [if_neg c27] at H; exact absurd H (by simp)
     rw [if_pos c27] at H
     have c27b0 : (t242 == a0) = true := beq_iff_eq.mpr c27
     have c27b1 : (t242 != a0) = false := bne_eq_false_iff_eq.mpr c27
     clear c27
     replace H := Option.bind_eq_some_iff.mp H
     obtain ⟨t243, A280, H⟩ := H
     replace H : (some t243) = some r := H
     have A28 := Aside0.mk A280
     clear A280
     obtain rfl := Option.some.inj H
     obtain ⟨i029, hi029, _, hsz29, _⟩ := info_parts info5
     obtain ⟨hcut29, hA29, hC29⟩ := print_take_of (P := Try.prog) (Value.int .u8) 0 23 5 .i64 Try.underlying23 hi029 hsz29 A1 c1 l1 a2 (of_decide_eq_true (by first | (with_reducible assumption) | assumption)) (of_decide_eq_true (by first | (with_reducible assumption) | assumption)) HC1.out
     have HR232 := Aside0.mk (Kd.C_of_reads (h1 := fun _ => rfl) (hA29 _ (Kd.reads_of_C HR1.out)))
     have HC232 := Aside0.mk hC29
     clear hA29 hC29 hi029 hsz29
     go_wp2_with (first | (go_at_call 12; refine calls_of_args (args' := #[.slice A1 (l1.take (a2 : Int).toNat).length c1]) (by first | with_reducible rfl | (rw [show (l1.take (a2 : Int).toNat).length = a2.toNat from (by rw [List.length_take]; have h_ : (a2 : Int) ≤ (l1.length : Int) := of_decide_eq_true (by first | (with_reducible assumption) | assumption); omega)] <;> rfl) | rfl) ?_; (with_reducible refine (crc_Sum.calls kj3 _ _ (l1.take (a2 : Int).toNat) t233 _ ?side1 ?side2 A12.out).mono ?_); (case side1 => repeat (first | exact (Kd.C_below HR232.out HB.out) | (with_reducible first | apply cA | apply cN | apply cD))); (case side2 => exact HC232.out); rintro e w' ⟨rfl, ⟨nd, rfl⟩⟩; (try first | exact ⟨rfl, _, World.drewN_drewN _ _ _⟩ | exact ⟨rfl, _, Eq.trans (World.drewN_drewN _ _ _) (congrArg (World.drewN _) (Nat.add_assoc _ _ _))⟩); obtain ⟨i030, hi030, _, hsz30, _⟩ := info_parts info5; obtain ⟨A30, hcut30, hA30, hC30⟩ := print_drop_of (P := Try.prog) (Value.int .u8) 0 23 5 .i64 Try.underlying23 hi030 hsz30 A1 c1 l1 a2 (of_decide_eq_true (by first | (with_reducible assumption) | assumption)) (of_decide_eq_true (by first | (with_reducible assumption) | assumption)) HC1.out; have HR234 := Aside0.mk (Kd.C_of_reads (h1 := fun _ => rfl) (hA30 _ (Kd.reads_of_C HR1.out))); have HC234 := Aside0.mk hC30; clear hA30 hC30 hi030 hsz30) | (go_at_call 14; refine calls_of_args (args' := #[.int .u32 t233, .slice A30 (l1.drop (a2 : Int).toNat).length (c1 - a2.toNat)]) (by first | with_reducible rfl | (rw [show (l1.drop (a2 : Int).toNat).length = (l1.length - a2.toNat) from List.length_drop] <;> rfl) | rfl) ?_; (with_reducible refine (crc_Extend.calls kj3 t233 _ _ (l1.drop (a2 : Int).toNat) t235 _ ?side1 ?side2 A15.out).mono ?_); (case side1 => repeat (first | exact (Kd.C_below HR234.out (by repeat with_reducible first | exact HB.out | apply bA | apply bN | apply bD)) | (with_reducible first | apply cA | apply cN | apply cD))); (case side2 => exact HC234.out); rintro e w' ⟨rfl, ⟨nd, rfl⟩⟩; (try first | exact ⟨rfl, _, World.drewN_drewN _ _ _⟩ | exact ⟨rfl, _, Eq.trans (World.drewN_drewN _ _ _) (congrArg (World.drewN _) (Nat.add_assoc _ _ _))⟩)) | (go_at_call 12; (with_reducible refine (crc_Sum.calls kj3 _ _ l1 t236 _ ?side1 ?side2 A16.out).mono ?_); (case side1 => repeat (first | exact (Kd.C_below HR1.out (by repeat with_reducible first | exact HB.out | apply bA | apply bN | apply bD)) | (with_reducible first | apply cA | apply cN | apply cD))); (case side2 => exact HC1.out); rintro e w' ⟨rfl, ⟨nd, rfl⟩⟩; (try first | exact ⟨rfl, _, World.drewN_drewN _ _ _⟩ | exact ⟨rfl, _, Eq.trans (World.drewN_drewN _ _ _) (congrArg (World.drewN _) (Nat.add_assoc _ _ _))⟩); obtain ⟨i031, hi031, _, hsz31, _⟩ := info_parts info5; obtain ⟨hcut31, hA31, hC31⟩ := print_take_of (P := Try.prog) (Value.int .u8) 0 23 5 .i64 Try.underlying23 hi031 hsz31 A1 c1 l1 a2 (of_decide_eq_true (by first | (with_reducible assumption) | assumption)) (of_decide_eq_true (by first | (with_reducible assumption) | assumption)) HC1.out; have HR237 := Aside0.mk (Kd.C_of_reads (h1 := fun _ => rfl) (hA31 _ (Kd.reads_of_C HR1.out))); have HC237 := Aside0.mk hC31; clear hA31 hC31 hi031 hsz31; (try clear hcut29)) | (go_at_call 14; refine calls_of_args (args' := #[.int .u32 a0, .slice A1 (l1.take (a2 : Int).toNat).length c1]) (by first | with_reducible rfl | (rw [show (l1.take (a2 : Int).toNat).length = a2.toNat from (by rw [List.length_take]; have h_ : (a2 : Int) ≤ (l1.length : Int) := of_decide_eq_true (by first | (with_reducible assumption) | assumption); omega)] <;> rfl) | rfl) ?_; (with_reducible refine (crc_Extend.calls kj3 a0 _ _ (l1.take (a2 : Int).toNat) t238 _ ?side1 ?side2 A20.out).mono ?_); (case side1 => repeat (first | exact (Kd.C_below HR237.out (by repeat with_reducible first | exact HB.out | apply bA | apply bN | apply bD)) | (with_reducible first | apply cA | apply cN | apply cD))); (case side2 => exact HC237.out); rintro e w' ⟨rfl, ⟨nd, rfl⟩⟩; (try first | exact ⟨rfl, _, World.drewN_drewN _ _ _⟩ | exact ⟨rfl, _, Eq.trans (World.drewN_drewN _ _ _) (congrArg (World.drewN _) (Nat.add_assoc _ _ _))⟩); obtain ⟨i032, hi032, _, hsz32, _⟩ := info_parts info5; obtain ⟨A32, hcut32, hA32, hC32⟩ := print_drop_of (P := Try.prog) (Value.int .u8) 0 23 5 .i64 Try.underlying23 hi032 hsz32 A1 c1 l1 a2 (of_decide_eq_true (by first | (with_reducible assumption) | assumption)) (of_decide_eq_true (by first | (with_reducible assumption) | assumption)) HC1.out; have HR239 := Aside0.mk (Kd.C_of_reads (h1 := fun _ => rfl) (hA32 _ (Kd.reads_of_C HR1.out))); have HC239 := Aside0.mk hC32; clear hA32 hC32 hi032 hsz32; (try clear hcut30)) | (go_at_call 14; refine calls_of_args (args' := #[.int .u32 t238, .slice A32 (l1.drop (a2 : Int).toNat).length (c1 - a2.toNat)]) (by first | with_reducible rfl | (rw [show (l1.drop (a2 : Int).toNat).length = (l1.length - a2.toNat) from List.length_drop] <;> rfl) | rfl) ?_; (with_reducible refine (crc_Extend.calls kj3 t238 _ _ (l1.drop (a2 : Int).toNat) t240 _ ?side1 ?side2 A23.out).mono ?_); (case side1 => repeat (first | exact (Kd.C_below HR239.out (by repeat with_reducible first | exact HB.out | apply bA | apply bN | apply bD)) | (with_reducible first | apply cA | apply cN | apply cD))); (case side2 => exact HC239.out); rintro e w' ⟨rfl, ⟨nd, rfl⟩⟩; (try first | exact ⟨rfl, _, World.drewN_drewN _ _ _⟩ | exact ⟨rfl, _, Eq.trans (World.drewN_drewN _ _ _) (congrArg (World.drewN _) (Nat.add_assoc _ _ _))⟩)) | (go_at_call 14; (with_reducible refine (crc_Extend.calls kj3 a0 _ _ l1 t241 _ ?side1 ?side2 A24.out).mono ?_); (case side1 => repeat (first | exact (Kd.C_below HR1.out (by repeat with_reducible first | exact HB.out | apply bA | apply bN | apply bD)) | (with_reducible first | apply cA | apply cN | apply cD))); (case side2 => exact HC1.out); rintro e w' ⟨rfl, ⟨nd, rfl⟩⟩; (try first | exact ⟨rfl, _, World.drewN_drewN _ _ _⟩ | exact ⟨rfl, _, Eq.trans (World.drewN_drewN _ _ _) (congrArg (World.drewN _) (Nat.add_assoc _ _ _))⟩)) | (go_at_call 14; refine calls_of_args (args' := #[.int .u32 a0, .slice none 0 0]) (by first | with_reducible rfl | rfl) ?_; (refine (crc_Extend.calls kj3 a0 _ _ ([] : List Int) t242 _ ?side1 ?side2 A26.out).mono ?_); (case side1 => exact Kd.C_nil _ _); (case side2 => exact Nat.le_refl _); rintro e w' ⟨rfl, ⟨nd, rfl⟩⟩; (try first | exact ⟨rfl, _, World.drewN_drewN _ _ _⟩ | exact ⟨rfl, _, Eq.trans (World.drewN_drewN _ _ _) (congrArg (World.drewN _) (Nat.add_assoc _ _ _))⟩)) | (go_at_call 11; (with_reducible refine (dancestudiolaw08_awake.calls kj3  t243 _ A28.out).mono ?_); rintro e w33 ⟨rfl, hb⟩; replace HB := Aside0.mk (below_step (by repeat with_reducible first | exact HB.out | apply bA | apply bN | apply bD) hb); (try clear hb); (try clear hb2); (try clear hk); (try clear hi)))
     repeat (go_quiet (first | (go_at_call 12; refine calls_of_args (args' := #[.slice A1 (l1.take (a2 : Int).toNat).length c1]) (by first | with_reducible rfl | (rw [show (l1.take (a2 : Int).toNat).length = a2.toNat from (by rw [List.length_take]; have h_ : (a2 : Int) ≤ (l1.length : Int) := of_decide_eq_true (by first | (with_reducible assumption) | assumption); omega)] <;> rfl) | rfl) ?_; (with_reducible refine (crc_Sum.calls kj3 _ _ (l1.take (a2 : Int).toNat) t233 _ ?side1 ?side2 A12.out).mono ?_); (case side1 => repeat (first | exact (Kd.C_below HR232.out HB.out) | (with_reducible first | apply cA | apply cN | apply cD))); (case side2 => exact HC232.out); rintro e w' ⟨rfl, ⟨nd, rfl⟩⟩; (try first | exact ⟨rfl, _, World.drewN_drewN _ _ _⟩ | exact ⟨rfl, _, Eq.trans (World.drewN_drewN _ _ _) (congrArg (World.drewN _) (Nat.add_assoc _ _ _))⟩); obtain ⟨i030, hi030, _, hsz30, _⟩ := info_parts info5; obtain ⟨A30, hcut30, hA30, hC30⟩ := print_drop_of (P := Try.prog) (Value.int .u8) 0 23 5 .i64 Try.underlying23 hi030 hsz30 A1 c1 l1 a2 (of_decide_eq_true (by first | (with_reducible assumption) | assumption)) (of_decide_eq_true (by first | (with_reducible assumption) | assumption)) HC1.out; have HR234 := Aside0.mk (Kd.C_of_reads (h1 := fun _ => rfl) (hA30 _ (Kd.reads_of_C HR1.out))); have HC234 := Aside0.mk hC30; clear hA30 hC30 hi030 hsz30) | (go_at_call 14; refine calls_of_args (args' := #[.int .u32 t233, .slice A30 (l1.drop (a2 : Int).toNat).length (c1 - a2.toNat)]) (by first | with_reducible rfl | (rw [show (l1.drop (a2 : Int).toNat).length = (l1.length - a2.toNat) from List.length_drop] <;> rfl) | rfl) ?_; (with_reducible refine (crc_Extend.calls kj3 t233 _ _ (l1.drop (a2 : Int).toNat) t235 _ ?side1 ?side2 A15.out).mono ?_); (case side1 => repeat (first | exact (Kd.C_below HR234.out (by repeat with_reducible first | exact HB.out | apply bA | apply bN | apply bD)) | (with_reducible first | apply cA | apply cN | apply cD))); (case side2 => exact HC234.out); rintro e w' ⟨rfl, ⟨nd, rfl⟩⟩; (try first | exact ⟨rfl, _, World.drewN_drewN _ _ _⟩ | exact ⟨rfl, _, Eq.trans (World.drewN_drewN _ _ _) (congrArg (World.drewN _) (Nat.add_assoc _ _ _))⟩)) | (go_at_call 12; (with_reducible refine (crc_Sum.calls kj3 _ _ l1 t236 _ ?side1 ?side2 A16.out).mono ?_); (case side1 => repeat (first | exact (Kd.C_below HR1.out (by repeat with_reducible first | exact HB.out | apply bA | apply bN | apply bD)) | (with_reducible first | apply cA | apply cN | apply cD))); (case side2 => exact HC1.out); rintro e w' ⟨rfl, ⟨nd, rfl⟩⟩; (try first | exact ⟨rfl, _, World.drewN_drewN _ _ _⟩ | exact ⟨rfl, _, Eq.trans (World.drewN_drewN _ _ _) (congrArg (World.drewN _) (Nat.add_assoc _ _ _))⟩); obtain ⟨i031, hi031, _, hsz31, _⟩ := info_parts info5; obtain ⟨hcut31, hA31, hC31⟩ := print_take_of (P := Try.prog) (Value.int .u8) 0 23 5 .i64 Try.underlying23 hi031 hsz31 A1 c1 l1 a2 (of_decide_eq_true (by first | (with_reducible assumption) | assumption)) (of_decide_eq_true (by first | (with_reducible assumption) | assumption)) HC1.out; have HR237 := Aside0.mk (Kd.C_of_reads (h1 := fun _ => rfl) (hA31 _ (Kd.reads_of_C HR1.out))); have HC237 := Aside0.mk hC31; clear hA31 hC31 hi031 hsz31; (try clear hcut29)) | (go_at_call 14; refine calls_of_args (args' := #[.int .u32 a0, .slice A1 (l1.take (a2 : Int).toNat).length c1]) (by first | with_reducible rfl | (rw [show (l1.take (a2 : Int).toNat).length = a2.toNat from (by rw [List.length_take]; have h_ : (a2 : Int) ≤ (l1.length : Int) := of_decide_eq_true (by first | (with_reducible assumption) | assumption); omega)] <;> rfl) | rfl) ?_; (with_reducible refine (crc_Extend.calls kj3 a0 _ _ (l1.take (a2 : Int).toNat) t238 _ ?side1 ?side2 A20.out).mono ?_); (case side1 => repeat (first | exact (Kd.C_below HR237.out (by repeat with_reducible first | exact HB.out | apply bA | apply bN | apply bD)) | (with_reducible first | apply cA | apply cN | apply cD))); (case side2 => exact HC237.out); rintro e w' ⟨rfl, ⟨nd, rfl⟩⟩; (try first | exact ⟨rfl, _, World.drewN_drewN _ _ _⟩ | exact ⟨rfl, _, Eq.trans (World.drewN_drewN _ _ _) (congrArg (World.drewN _) (Nat.add_assoc _ _ _))⟩); obtain ⟨i032, hi032, _, hsz32, _⟩ := info_parts info5; obtain ⟨A32, hcut32, hA32, hC32⟩ := print_drop_of (P := Try.prog) (Value.int .u8) 0 23 5 .i64 Try.underlying23 hi032 hsz32 A1 c1 l1 a2 (of_decide_eq_true (by first | (with_reducible assumption) | assumption)) (of_decide_eq_true (by first | (with_reducible assumption) | assumption)) HC1.out; have HR239 := Aside0.mk (Kd.C_of_reads (h1 := fun _ => rfl) (hA32 _ (Kd.reads_of_C HR1.out))); have HC239 := Aside0.mk hC32; clear hA32 hC32 hi032 hsz32; (try clear hcut30)) | (go_at_call 14; refine calls_of_args (args' := #[.int .u32 t238, .slice A32 (l1.drop (a2 : Int).toNat).length (c1 - a2.toNat)]) (by first | with_reducible rfl | (rw [show (l1.drop (a2 : Int).toNat).length = (l1.length - a2.toNat) from List.length_drop] <;> rfl) | rfl) ?_; (with_reducible refine (crc_Extend.calls kj3 t238 _ _ (l1.drop (a2 : Int).toNat) t240 _ ?side1 ?side2 A23.out).mono ?_); (case side1 => repeat (first | exact (Kd.C_below HR239.out (by repeat with_reducible first | exact HB.out | apply bA | apply bN | apply bD)) | (with_reducible first | apply cA | apply cN | apply cD))); (case side2 => exact HC239.out); rintro e w' ⟨rfl, ⟨nd, rfl⟩⟩; (try first | exact ⟨rfl, _, World.drewN_drewN _ _ _⟩ | exact ⟨rfl, _, Eq.trans (World.drewN_drewN _ _ _) (congrArg (World.drewN _) (Nat.add_assoc _ _ _))⟩)) | (go_at_call 14; (with_reducible refine (crc_Extend.calls kj3 a0 _ _ l1 t241 _ ?side1 ?side2 A24.out).mono ?_); (case side1 => repeat (first | exact (Kd.C_below HR1.out (by repeat with_reducible first | exact HB.out | apply bA | apply bN | apply bD)) | (with_reducible first | apply cA | apply cN | apply cD))); (case side2 => exact HC1.out); rintro e w' ⟨rfl, ⟨nd, rfl⟩⟩; (try first | exact ⟨rfl, _, World.drewN_drewN _ _ _⟩ | exact ⟨rfl, _, Eq.trans (World.drewN_drewN _ _ _) (congrArg (World.drewN _) (Nat.add_assoc _ _ _))⟩)) | (go_at_call 14; refine calls_of_args (args' := #[.int .u32 a0, .slice none 0 0]) (by first | with_reducible rfl | rfl) ?_; (refine (crc_Extend.calls kj3 a0 _ _ ([] : List Int) t242 _ ?side1 ?side2 A26.out).mono ?_); (case side1 => exact Kd.C_nil _ _); (case side2 => exact Nat.le_refl _); rintro e w' ⟨rfl, ⟨nd, rfl⟩⟩; (try first | exact ⟨rfl, _, World.drewN_drewN _ _ _⟩ | exact ⟨rfl, _, Eq.trans (World.drewN_drewN _ _ _) (congrArg (World.drewN _) (Nat.add_assoc _ _ _))⟩)) | (go_at_call 11; (with_reducible refine (dancestudiolaw08_awake.calls kj3  t243 _ A28.out).mono ?_); rintro e w33 ⟨rfl, hb⟩; replace HB := Aside0.mk (below_step (by repeat with_reducible first | exact HB.out | apply bA | apply bN | apply bD) hb); (try clear hb); (try clear hb2); (try clear hk); (try clear hi))); try go_wp2_with (first | (go_at_call 12; refine calls_of_args (args' := #[.slice A1 (l1.take (a2 : Int).toNat).length c1]) (by first | with_reducible rfl | (rw [show (l1.take (a2 : Int).toNat).length = a2.toNat from (by rw [List.length_take]; have h_ : (a2 : Int) ≤ (l1.length : Int) := of_decide_eq_true (by first | (with_reducible assumption) | assumption); omega)] <;> rfl) | rfl) ?_; (with_reducible refine (crc_Sum.calls kj3 _ _ (l1.take (a2 : Int).toNat) t233 _ ?side1 ?side2 A12.out).mono ?_); (case side1 => repeat (first | exact (Kd.C_below HR232.out HB.out) | (with_reducible first | apply cA | apply cN | apply cD))); (case side2 => exact HC232.out); rintro e w' ⟨rfl, ⟨nd, rfl⟩⟩; (try first | exact ⟨rfl, _, World.drewN_drewN _ _ _⟩ | exact ⟨rfl, _, Eq.trans (World.drewN_drewN _ _ _) (congrArg (World.drewN _) (Nat.add_assoc _ _ _))⟩); obtain ⟨i030, hi030, _, hsz30, _⟩ := info_parts info5; obtain ⟨A30, hcut30, hA30, hC30⟩ := print_drop_of (P := Try.prog) (Value.int .u8) 0 23 5 .i64 Try.underlying23 hi030 hsz30 A1 c1 l1 a2 (of_decide_eq_true (by first | (with_reducible assumption) | assumption)) (of_decide_eq_true (by first | (with_reducible assumption) | assumption)) HC1.out; have HR234 := Aside0.mk (Kd.C_of_reads (h1 := fun _ => rfl) (hA30 _ (Kd.reads_of_C HR1.out))); have HC234 := Aside0.mk hC30; clear hA30 hC30 hi030 hsz30) | (go_at_call 14; refine calls_of_args (args' := #[.int .u32 t233, .slice A30 (l1.drop (a2 : Int).toNat).length (c1 - a2.toNat)]) (by first | with_reducible rfl | (rw [show (l1.drop (a2 : Int).toNat).length = (l1.length - a2.toNat) from List.length_drop] <;> rfl) | rfl) ?_; (with_reducible refine (crc_Extend.calls kj3 t233 _ _ (l1.drop (a2 : Int).toNat) t235 _ ?side1 ?side2 A15.out).mono ?_); (case side1 => repeat (first | exact (Kd.C_below HR234.out (by repeat with_reducible first | exact HB.out | apply bA | apply bN | apply bD)) | (with_reducible first | apply cA | apply cN | apply cD))); (case side2 => exact HC234.out); rintro e w' ⟨rfl, ⟨nd, rfl⟩⟩; (try first | exact ⟨rfl, _, World.drewN_drewN _ _ _⟩ | exact ⟨rfl, _, Eq.trans (World.drewN_drewN _ _ _) (congrArg (World.drewN _) (Nat.add_assoc _ _ _))⟩)) | (go_at_call 12; (with_reducible refine (crc_Sum.calls kj3 _ _ l1 t236 _ ?side1 ?side2 A16.out).mono ?_); (case side1 => repeat (first | exact (Kd.C_below HR1.out (by repeat with_reducible first | exact HB.out | apply bA | apply bN | apply bD)) | (with_reducible first | apply cA | apply cN | apply cD))); (case side2 => exact HC1.out); rintro e w' ⟨rfl, ⟨nd, rfl⟩⟩; (try first | exact ⟨rfl, _, World.drewN_drewN _ _ _⟩ | exact ⟨rfl, _, Eq.trans (World.drewN_drewN _ _ _) (congrArg (World.drewN _) (Nat.add_assoc _ _ _))⟩); obtain ⟨i031, hi031, _, hsz31, _⟩ := info_parts info5; obtain ⟨hcut31, hA31, hC31⟩ := print_take_of (P := Try.prog) (Value.int .u8) 0 23 5 .i64 Try.underlying23 hi031 hsz31 A1 c1 l1 a2 (of_decide_eq_true (by first | (with_reducible assumption) | assumption)) (of_decide_eq_true (by first | (with_reducible assumption) | assumption)) HC1.out; have HR237 := Aside0.mk (Kd.C_of_reads (h1 := fun _ => rfl) (hA31 _ (Kd.reads_of_C HR1.out))); have HC237 := Aside0.mk hC31; clear hA31 hC31 hi031 hsz31; (try clear hcut29)) | (go_at_call 14; refine calls_of_args (args' := #[.int .u32 a0, .slice A1 (l1.take (a2 : Int).toNat).length c1]) (by first | with_reducible rfl | (rw [show (l1.take (a2 : Int).toNat).length = a2.toNat from (by rw [List.length_take]; have h_ : (a2 : Int) ≤ (l1.length : Int) := of_decide_eq_true (by first | (with_reducible assumption) | assumption); omega)] <;> rfl) | rfl) ?_; (with_reducible refine (crc_Extend.calls kj3 a0 _ _ (l1.take (a2 : Int).toNat) t238 _ ?side1 ?side2 A20.out).mono ?_); (case side1 => repeat (first | exact (Kd.C_below HR237.out (by repeat with_reducible first | exact HB.out | apply bA | apply bN | apply bD)) | (with_reducible first | apply cA | apply cN | apply cD))); (case side2 => exact HC237.out); rintro e w' ⟨rfl, ⟨nd, rfl⟩⟩; (try first | exact ⟨rfl, _, World.drewN_drewN _ _ _⟩ | exact ⟨rfl, _, Eq.trans (World.drewN_drewN _ _ _) (congrArg (World.drewN _) (Nat.add_assoc _ _ _))⟩); obtain ⟨i032, hi032, _, hsz32, _⟩ := info_parts info5; obtain ⟨A32, hcut32, hA32, hC32⟩ := print_drop_of (P := Try.prog) (Value.int .u8) 0 23 5 .i64 Try.underlying23 hi032 hsz32 A1 c1 l1 a2 (of_decide_eq_true (by first | (with_reducible assumption) | assumption)) (of_decide_eq_true (by first | (with_reducible assumption) | assumption)) HC1.out; have HR239 := Aside0.mk (Kd.C_of_reads (h1 := fun _ => rfl) (hA32 _ (Kd.reads_of_C HR1.out))); have HC239 := Aside0.mk hC32; clear hA32 hC32 hi032 hsz32; (try clear hcut30)) | (go_at_call 14; refine calls_of_args (args' := #[.int .u32 t238, .slice A32 (l1.drop (a2 : Int).toNat).length (c1 - a2.toNat)]) (by first | with_reducible rfl | (rw [show (l1.drop (a2 : Int).toNat).length = (l1.length - a2.toNat) from List.length_drop] <;> rfl) | rfl) ?_; (with_reducible refine (crc_Extend.calls kj3 t238 _ _ (l1.drop (a2 : Int).toNat) t240 _ ?side1 ?side2 A23.out).mono ?_); (case side1 => repeat (first | exact (Kd.C_below HR239.out (by repeat with_reducible first | exact HB.out | apply bA | apply bN | apply bD)) | (with_reducible first | apply cA | apply cN | apply cD))); (case side2 => exact HC239.out); rintro e w' ⟨rfl, ⟨nd, rfl⟩⟩; (try first | exact ⟨rfl, _, World.drewN_drewN _ _ _⟩ | exact ⟨rfl, _, Eq.trans (World.drewN_drewN _ _ _) (congrArg (World.drewN _) (Nat.add_assoc _ _ _))⟩)) | (go_at_call 14; (with_reducible refine (crc_Extend.calls kj3 a0 _ _ l1 t241 _ ?side1 ?side2 A24.out).mono ?_); (case side1 => repeat (first | exact (Kd.C_below HR1.out (by repeat with_reducible first | exact HB.out | apply bA | apply bN | apply bD)) | (with_reducible first | apply cA | apply cN | apply cD))); (case side2 => exact HC1.out); rintro e w' ⟨rfl, ⟨nd, rfl⟩⟩; (try first | exact ⟨rfl, _, World.drewN_drewN _ _ _⟩ | exact ⟨rfl, _, Eq.trans (World.drewN_drewN _ _ _) (congrArg (World.drewN _) (Nat.add_assoc _ _ _))⟩)) | (go_at_call 14; refine calls_of_args (args' := #[.int .u32 a0, .slice none 0 0]) (by first | with_reducible rfl | rfl) ?_; (refine (crc_Extend.calls kj3 a0 _ _ ([] : List Int) t242 _ ?side1 ?side2 A26.out).mono ?_); (case side1 => exact Kd.C_nil _ _); (case side2 => exact Nat.le_refl _); rintro e w' ⟨rfl, ⟨nd, rfl⟩⟩; (try first | exact ⟨rfl, _, World.drewN_drewN _ _ _⟩ | exact ⟨rfl, _, Eq.trans (World.drewN_drewN _ _ _) (congrArg (World.drewN _) (Nat.add_assoc _ _ _))⟩)) | (go_at_call 11; (with_reducible refine (dancestudiolaw08_awake.calls kj3  t243 _ A28.out).mono ?_); rintro e w33 ⟨rfl, hb⟩; replace HB := Aside0.mk (below_step (by repeat with_reducible first | exact HB.out | apply bA | apply bN | apply bD) hb); (try clear hb); (try clear hb2); (try clear hk); (try clear hi))))
     go_ret
     exact ⟨by first | rfl | (simp [errW_none, errW_some] <;> rfl) | (simp [*, errW_none, errW_some] <;> rfl), by repeat with_reducible first | exact HB.out | apply bA | apply bN | apply bD⟩
    ·
     rw [if_neg c10] at H
     exact absurd H (by simp)

/-- THE ONE PURE STATEMENT of dancestudiolaw08_CrcExtend: yours. -/
def dancestudiolaw08_CrcExtend.Pure : Prop := ∀ (a0 : Int) (l1 : List Int) (a2 : Int), (Lit.int .u32 a0).wf = true → l1.length ≤ maxLen → l1.length * 1 ≤ 140737488351232 → (∀ x ∈ l1, (Lit.int .u8 x).wf = true) → (Lit.int .i64 a2).wf = true → ∃ k, dancestudiolaw08_CrcExtend.f k a0 l1 a2 = some true
theorem dancestudiolaw08_CrcExtend.walk (P : dancestudiolaw08_CrcExtend.Pure) (a0 : Int) (a1 : Option Addr) (len1 cap1 : Nat) (z1 : List Int) (a2 : Int) (w : World) (w0 : (Lit.int .u32 a0).wf = true) (w1 : (a1 = none ∧ len1 = 0 ∧ cap1 = 0 ∧ z1 = []) ∨ ∃ x, a1 = some x ∧ len1 ≤ cap1 ∧ cap1 ≤ maxLen ∧ z1.length = cap1 ∧ (∀ i, i < z1.length → w.cell? (x.add i) = some (.int .u8 (z1.getD i 0))) ∧ ∀ n ∈ z1, (Lit.int .u8 n).wf = true) (y1 : len1 * 1 ≤ 140737488351232) (w2 : (Lit.int .i64 a2).wf = true) :
  Calls Try.prog 4 #[.int .u32 a0, .slice a1 len1 cap1, .int .i64 a2] w fun e w' => e = .returned (.bool true) ∧ Below w.heap.size w w' := by
 obtain ⟨l1, rfl, hr1, hm1, hw1, hc1⟩ := ReadsInt.ofRowC w1
 obtain ⟨k, h⟩ := P a0 l1 a2 w0 hm1 y1 hw1 w2
 refine (dancestudiolaw08_CrcExtend.calls k a0 _ _ l1 a2 true w (Kd.C_of_reads (d := (0 : Int)) (h1 := fun _ => rfl) hr1) hc1 h).mono ?_
 rintro e w' ⟨rfl, hd⟩
 exact ⟨rfl, hd⟩

end Go.Proofs.Ytobehfghepbhbaa.X
