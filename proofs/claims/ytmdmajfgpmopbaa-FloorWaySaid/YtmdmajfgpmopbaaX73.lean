-- squeezed
-- written by xprint.py, an own overlay over the kit's print; not trusted: Lean checks it
import Derived.Test.YtmdmajfgpmopbaaX0
import Derived.Test.YtmdmajfgpmopbaaX10
import Derived.Test.YtmdmajfgpmopbaaX69
import Derived.Test.YtmdmajfgpmopbaaX70
import Derived.Test.YtmdmajfgpmopbaaX71
import Derived.Test.YtmdmajfgpmopbaaX72
namespace Go.Proofs.Ytmdmajfgpmopbaa.X
open Go.RowKit Go.Proofs.YtmdmajfgpmopbaaW.PrintWords Go.Proofs.YtmdmajfgpmopbaaW.PrintLast Go.Proofs.YtmdmajfgpmopbaaW.PrintMore
attribute [local go_sem] max2_int min2_int max_two min_two max_three min_three max_four min_four   -- for this text's walks alone
set_option linter.unusedVariables false
set_option linter.unusedSimpArgs false

/-! ### movement_Reverse: function 23 -/
def movement_Reverse.f (k : Nat) (l0_0 : List (S53)) (l0_1 : List Int) : Option ((List (S53)) × List Int × Int) := (movement_Check.f k l0_0 l0_1).bind fun t698 => (if t698 = 0 then ((api_Pose_37.f l0_0).bind fun t699 => ((slices_Clone_int_int.f l0_1).bind fun t702 => ((api_Pose_39.f k t699).bind fun t706 => ((slices_Reverse_int_int.f k t702).bind fun t707 => (some (t706, t707, 0)))))) else (some (([] : List (S53)), ([] : List Int), t698)))
theorem movement_Reverse.mono : ∀ a0 a1 k, LeO (movement_Reverse.f k a0 a1) (movement_Reverse.f (k + 1) a0 a1) := by
 intro a0 a1 k
 unfold movement_Reverse.f
 repeat' first
   | (with_reducible exact api_Pose_39.mono _ _)
   | (with_reducible exact movement_Check.mono _ _ _)
   | (with_reducible exact slices_Reverse_int_int.mono _ _)
   | (with_reducible exact LeO.refl _)
   | (with_reducible exact LeO.none _)
   | (with_reducible refine LeO.ite ?_ ?_)
   | (with_reducible refine LeO.bind ?_ (fun _ => ?_))
   | exact api_Pose_39.mono _ _
   | exact movement_Check.mono _ _ _
   | exact slices_Reverse_int_int.mono _ _
   | exact LeO.none _
   | refine LeO.ite ?_ ?_
   | refine LeO.bind ?_ (fun _ => ?_)
def movement_Reverse.T4 : Bool × List (List Nat × List Nat) := (true, [([], []), ([0], [0]), ([1], [1]), ([], []), ([3], [3]), ([4, 2], [4]), ([2, 5], [2, 5]), ([], []), ([7, 6, 5, 0, 1, 2, 3, 4, 5, 6, 7], [6, 7])])
def movement_Reverse.B4 : List Nat := [0, 1, 3, 0, 8, 31, 63, 0, 255]
theorem movement_Reverse.tab4 : rtab .any (opsOf Try.f23 4) = movement_Reverse.T4 := by kernel_rfl
theorem movement_Reverse.bits4 : waitsOk movement_Reverse.T4.2 movement_Reverse.B4 = true := by kernel_rfl
set_option maxHeartbeats 8000000 in
set_option maxRecDepth 100000 in
theorem movement_Reverse.calls (k : Nat) (A0_0 : Option Addr) (c0_0 : Nat) (l0_0 : List (S53)) (A0_1 : Option Addr) (c0_1 : Nat) (l0_1 : List Int) (r1 : List (S53)) (r2 : List Int) (r3 : Int) (w : World) (hr0_0 : Kd.C k53 w A0_0 l0_0.length l0_0) (hc0_0 : l0_0.length ≤ c0_0) (hr0_1 : Kd.C (Kd.int .i64) w A0_1 l0_1.length l0_1) (hc0_1 : l0_1.length ≤ c0_1) (h : movement_Reverse.f k l0_0 l0_1 = some (r1, r2, r3)) :
  Calls Try.prog 23 #[.agg #[.slice A0_0 l0_0.length c0_0, .slice A0_1 l0_1.length c0_1]] w fun e w' => ∃ v0_ v1_ : Value, e = .returned (.tuple #[.agg #[v0_, v1_], .int .i64 r3]) ∧ Kd.R k53 53 w' w.heap.size (fun _ => True) v0_ r1 ∧ Kd.R (Kd.int .i64) 3 w' w.heap.size (fun _ => True) v1_ r2 ∧ Below w.heap.size w w' := by
 have hu25 := Try.underlying25
 have HR0_0 := Aside0.mk hr0_0
 have HC0_0 := Aside0.mk hc0_0
 clear hr0_0 hc0_0
 have HR0_1 := Aside0.mk hr0_1
 have HC0_1 := Aside0.mk hc0_1
 clear hr0_1 hc0_1
 have HB := Aside0.mk (Below.refl w.heap.size w)
 have H : ((movement_Check.f k l0_0 l0_1).bind fun t698 => (if t698 = 0 then ((api_Pose_37.f l0_0).bind fun t699 => ((slices_Clone_int_int.f l0_1).bind fun t702 => ((api_Pose_39.f k t699).bind fun t706 => ((slices_Reverse_int_int.f k t702).bind fun t707 => (some (t706, t707, 0)))))) else (some (([] : List (S53)), ([] : List Int), t698)))) = some (r1, r2, r3) := h
 clear h
 replace H := Option.bind_eq_some_iff.mp H
 obtain ⟨t698, A20, H⟩ := H
 replace H : (if t698 = 0 then ((api_Pose_37.f l0_0).bind fun t699 => ((slices_Clone_int_int.f l0_1).bind fun t702 => ((api_Pose_39.f k t699).bind fun t706 => ((slices_Reverse_int_int.f k t702).bind fun t707 => (some (t706, t707, 0)))))) else (some (([] : List (S53)), ([] : List Int), t698))) = some (r1, r2, r3) := H
 have A2 := Aside0.mk A20
 clear A20
 by_cases c3 : t698 = 0
 ·
  rw [if_pos c3] at H
  have c3b0 : (t698 == 0) = true := beq_iff_eq.mpr c3
  have c3b1 : (t698 != 0) = false := bne_eq_false_iff_eq.mpr c3
  clear c3
  replace H := Option.bind_eq_some_iff.mp H
  obtain ⟨t699, A40, H⟩ := H
  replace H : ((slices_Clone_int_int.f l0_1).bind fun t702 => ((api_Pose_39.f k t699).bind fun t706 => ((slices_Reverse_int_int.f k t702).bind fun t707 => (some (t706, t707, 0))))) = some (r1, r2, r3) := H
  have A4 := Aside0.mk A40
  clear A40
  replace H := Option.bind_eq_some_iff.mp H
  obtain ⟨t702, A50, H⟩ := H
  replace H : ((api_Pose_39.f k t699).bind fun t706 => ((slices_Reverse_int_int.f k t702).bind fun t707 => (some (t706, t707, 0)))) = some (r1, r2, r3) := H
  have A5 := Aside0.mk A50
  clear A50
  replace H := Option.bind_eq_some_iff.mp H
  obtain ⟨t706, A60, H⟩ := H
  replace H : ((slices_Reverse_int_int.f k t702).bind fun t707 => (some (t706, t707, 0))) = some (r1, r2, r3) := H
  have A6 := Aside0.mk A60
  clear A60
  replace H := Option.bind_eq_some_iff.mp H
  obtain ⟨t707, A70, H⟩ := H
  replace H : (some (t706, t707, 0)) = some (r1, r2, r3) := H
  have A7 := Aside0.mk A70
  clear A70
  simp only [Option.some.injEq, Prod.mk.injEq] at H
  obtain ⟨rfl, rfl, rfl⟩ := H
  go_enter Try.func23, Try.ntmps23
  try go_wp2_with (first | ((with_reducible refine gate_dst (N := 1) rfl ?_); refine box_event ?hg (N := 1) ?hd (cs := #[.slice A0_0 l0_0.length c0_0, .slice A0_1 l0_1.length c0_1]) (t := 25) ?hr ?_; (case hd => rfl); (case hg => rfl); (case hr => first | (go_simp; done) | (go_simp; rfl)); intro gb696 hg w8 hbox hb; have BK696 := Aside0.mk (hbox); have GW696 := Aside0.mk ((by rw [hg]; exact (below_size (by repeat with_reducible first | exact HB.out | apply bA | apply bN | apply bD)) : w.heap.size ≤ gb696)); have GE696 := GW696; replace HB := Aside0.mk (below_step (by repeat with_reducible first | exact HB.out | apply bA | apply bN | apply bD) hb); clear hb hbox hg) | ((with_reducible refine gate_dst (N := 2) rfl ?_); refine box_event ?hg (N := 2) ?hd (cs := #[.slice none 0 0, .slice none 0 0]) (t := 25) ?hr ?_; (case hd => rfl); (case hg => rfl); (case hr => first | (go_simp; done) | (go_simp; rfl)); intro gb697 hg w9 hbox hb; have BK697 := Aside0.mk (hbox); have GW697 := Aside0.mk ((by rw [hg]; exact (below_size (by repeat with_reducible first | exact HB.out | apply bA | apply bN | apply bD | refine bS ?_ GE696.out)) : w.heap.size ≤ gb697)); have GE697 := GW697; replace HB := Aside0.mk (below_step (by repeat with_reducible first | exact HB.out | apply bA | apply bN | apply bD | refine bS ?_ GE696.out) hb); have NB696_697 := Aside0.mk ((by rw [hg]; exact Nat.ne_of_lt (blk_lt (by with_reducible repeat first | exact BK696.out | apply kN | apply kD | apply kA)) : gb696 ≠ gb697)); have NB697_696 := Aside0.mk ((by rw [hg]; exact Nat.ne_of_gt (blk_lt (by with_reducible repeat first | exact BK696.out | apply kN | apply kD | apply kA)) : gb697 ≠ gb696)); replace BK696 := Aside0.mk (blk_below (o := .cells #[.slice A0_0 l0_0.length c0_0, .slice A0_1 l0_1.length c0_1] 25 (0, 0)) (by with_reducible repeat first | exact BK696.out | apply kN | apply kD | apply kA) hb); clear hb hbox hg; have hnb10 := NB696_697.out; have hnc10 := NB697_696.out; obtain ⟨hcz11_0, hcz11_1, hfz11_0, hfz11_1⟩ := kc2 BK696.out) | ((with_reducible refine gate_callee (f := 21) rfl ?_); refine goesL_ (some 7) rfl rfl Try.func21 (by kernel_rfl) rfl #[.agg #[.slice A0_0 l0_0.length c0_0, .slice A0_1 l0_1.length c0_1]] rfl (by (try simp only [List.map_toArray, List.map_cons, List.map_nil]); first | done | rfl | (simp only [List.length_drop, List.length_take]; rfl)) ?_; (with_reducible refine (movement_Check.calls k _ _ l0_0 _ _ l0_1 t698 _ ?side1 ?side2 ?side3 ?side4 A2.out).mono ?_); (case side1 => repeat (first | exact (Kd.C_below HR0_0.out HB.out) | (with_reducible first | apply cA | apply cN | apply cD))); (case side2 => exact HC0_0.out); (case side3 => repeat (first | exact (Kd.C_below HR0_1.out HB.out) | (with_reducible first | apply cA | apply cN | apply cD))); (case side4 => exact HC0_1.out); rintro e w12 ⟨rfl, hb⟩; refine ⟨_, rfl, ?_⟩; replace BK696 := Aside0.mk (blk_below (o := .cells #[.slice A0_0 l0_0.length c0_0, .slice A0_1 l0_1.length c0_1] 25 (0, 0)) (by with_reducible repeat first | exact BK696.out | apply kN | apply kD | apply kA) hb); replace BK697 := Aside0.mk (blk_below (o := .cells #[.slice none 0 0, .slice none 0 0] 25 (0, 0)) (by with_reducible repeat first | exact BK697.out | apply kN | apply kD | apply kA) hb); replace HB := Aside0.mk (below_step (by repeat with_reducible first | exact HB.out | apply bA | apply bN | apply bD | refine bS ?_ GE696.out | refine bS ?_ GE697.out) hb); (try clear hb); (try clear hb2); (try clear hk); (try clear hi)))
  have n0_ := Aside0.mk (blk_drew BK696.out)
  have n1_ := Aside0.mk (blk_drew BK697.out)
  have n2_ := Aside0.mk (below_drew1 HB.out)
  clear BK696
  clear BK697
  clear HB
  have BK696 := n0_
  have BK697 := n1_
  have HB := n2_
  clear n0_ n1_ n2_
  refine start_ (n := 9) (S := fun w' => w'.cell? ⟨gb696, 0, none⟩ = some (.slice A0_0 l0_0.length c0_0) ∧ w'.cell? ⟨gb696, 1, none⟩ = some (.slice A0_1 l0_1.length c0_1)) (ds := []) (bm 9 0) (by kernel_rfl) rfl rfl ⟨(blk_cell BK696.out 0).trans rfl, (blk_cell BK696.out 1).trans rfl⟩ (fun hHeld => ?_); refine with_tabW movement_Reverse.tab4 movement_Reverse.bits4 (fun HT_ HW_ => ?_)
  generalize w12.drew = w13 at BK696 BK697 HB hHeld ⊢
  refine pure_ (i := 0) (N := some 12) (v := ?_) (a' := ?_) (bm 9 1) rfl rfl (any_of HT_.out (by kernel_rfl)) (fun _ _ _ h => h) (Or.inl ⟨by rfl, ?_⟩) ?_ ?_
  rotate_left; (intro w'; go_simp; with_reducible rfl); rotate_left; (simp only [Act.put, aS, lZ, lS, i64_w, i32_w]; rfl)
  refine pure_ (i := 3) (N := some 15) (v := ?_) (a' := ?_) (bm 9 9) rfl rfl (any_of HT_.out (by kernel_rfl)) (fun _ _ _ h => h) (Or.inl ⟨by rfl, ?_⟩) ?_ ?_
  rotate_left; (intro w'; go_simp; with_reducible rfl); rotate_left; (simp only [Act.put, aS, lZ, lS, i64_w, i32_w]; rfl)
  refine take_ (i := 1) (N := some 13) (v := ?_) (a' := ?_) (bm 9 11) rfl rfl (take_ofW HT_.out HW_.out (by kernel_rfl)) (fun _ _ _ h => h) (Or.inl ⟨by rfl, ?_⟩) hHeld ?_ ?_
  rotate_left
  ·
   rintro w' ⟨s0, s1⟩
   go_simp
   with_reducible rfl
  rotate_left
  ·
   simp only [Act.put, aS, lZ, lS, i64_w, i32_w]
   rfl
  refine take_ (i := 4) (N := some 16) (v := ?_) (a' := ?_) (bm 9 27) rfl rfl (take_ofW HT_.out HW_.out (by kernel_rfl)) (fun _ _ _ h => h) (Or.inl ⟨by rfl, ?_⟩) hHeld ?_ ?_
  rotate_left
  ·
   rintro w' ⟨s0, s1⟩
   go_simp
   with_reducible rfl
  rotate_left
  ·
   simp only [Act.put, aS, lZ, lS, i64_w, i32_w]
   rfl
  refine join_ (σ := Value × Value × Nat) 1 (bm 9 255) (fun s_ => [(14, s_.1), (17, s_.2.1), (5, .pointer (some ⟨s_.2.2, 0, none⟩)), (18, .agg #[s_.1, s_.2.1])]) (fun s_ w' => (w'.cell? ⟨gb696, 0, none⟩ = some (.slice A0_0 l0_0.length c0_0) ∧ w'.cell? ⟨gb696, 1, none⟩ = some (.slice A0_1 l0_1.length c0_1)) ∧ (Kd.R k53 53 w' w.heap.size (fun _ => True) s_.1 t699) ∧ (Kd.R (Kd.int .i64) 3 w' w.heap.size (fun _ => True) s_.2.1 t702) ∧ (w'.heap[gb696]? = some (.cells #[.slice A0_0 l0_0.length c0_0, .slice A0_1 l0_1.length c0_1] 25 (0, 0))) ∧ (w'.heap[gb697]? = some (.cells #[.slice none 0 0, .slice none 0 0] 25 (0, 0))) ∧ (w'.heap[s_.2.2]? = some (.cells #[.slice none 0 0, .slice none 0 0] 25 (0, 0))) ∧ (w.heap.size ≤ s_.2.2) ∧ (w.heap.size ≤ s_.2.2) ∧ (gb696 ≠ s_.2.2) ∧ (s_.2.2 ≠ gb696) ∧ (gb697 ≠ s_.2.2) ∧ (s_.2.2 ≠ gb697) ∧ (Below w.heap.size w w')) ?_ ?_
  rotate_left
  ·
   intro hCont
   refine two_ (i := 2) (j := 7) (Ni := some 14) (Nj := some 5) (bm 9 31) (bm 9 155) rfl rfl rfl rfl (two_of HT_.out (by kernel_rfl)) (by decide) (by decide) (fun K hK => ?_) (fun K hK => ?_)
   ·
    skip
    refine goes_ Try.func37 (by kernel_rfl) rfl #[.slice A0_0 l0_0.length c0_0] (by rfl) rfl rfl (by (try simp only [List.map_toArray, List.map_cons, List.map_nil]); first | done | rfl | (simp only [List.length_drop, List.length_take]; rfl)) ?_
    with_reducible refine (api_Pose_37.calls _ _ l0_0 t699 _ ?side1 ?side2 A4.out).mono ?_
    (case side1 => repeat (first | exact (Kd.C_below HR0_0.out HB.out) | (with_reducible first | apply cA | apply cN | apply cD)))
    (case side2 => exact HC0_0.out)
    rintro e w14 ⟨v700, rfl, ho0, hb⟩
    refine ⟨_, rfl, ?_⟩
    have n0_ := Aside0.mk (Kd.R_lower ho0 (below_size (by repeat with_reducible first | exact HB.out | apply bA | apply bN | apply bD | refine bS ?_ GE696.out | refine bS ?_ GE697.out)))
    have n1_ := Aside0.mk (blk_below (o := .cells #[.slice A0_0 l0_0.length c0_0, .slice A0_1 l0_1.length c0_1] 25 (0, 0)) (by with_reducible repeat first | exact BK696.out | apply kN | apply kD | apply kA) hb)
    have n2_ := Aside0.mk (blk_below (o := .cells #[.slice none 0 0, .slice none 0 0] 25 (0, 0)) (by with_reducible repeat first | exact BK697.out | apply kN | apply kD | apply kA) hb)
    have n3_ := Aside0.mk (below_step (by repeat with_reducible first | exact HB.out | apply bA | apply bN | apply bD | refine bS ?_ GE696.out | refine bS ?_ GE697.out) hb)
    clear BK696
    clear BK697
    clear HB
    have HO701 := n0_
    have BK696 := n1_
    have BK697 := n2_
    have HB := n3_
    clear n0_ n1_ n2_ n3_
    (try clear hb)
    (try clear hb2)
    (try clear hk)
    (try clear hi)
    (try clear ho0)
    refine hK.out _ _ ⟨(blk_cell BK696.out 0).trans rfl, (blk_cell BK696.out 1).trans rfl⟩ (fun hHeld => ?_)
    clear hK K
    refine norm_ (a' := ?_) ?_ ?_
    rotate_left
    ·
     show Act.put _ (some 14) _ = _
     simp only [Act.put, aS, lZ, lS, i64_w, i32_w]
     rfl
    refine two_ (i := 5) (j := 7) (Ni := some 17) (Nj := some 5) (bm 9 63) (bm 9 159) rfl rfl rfl rfl (two_of HT_.out (by kernel_rfl)) (by decide) (by decide) (fun K hK => ?_) (fun K hK => ?_)
    ·
     skip
     refine goes_ Try.func38 (by kernel_rfl) rfl #[.slice A0_1 l0_1.length c0_1] (by rfl) rfl rfl (by (try simp only [List.map_toArray, List.map_cons, List.map_nil]); first | done | rfl | (simp only [List.length_drop, List.length_take]; rfl)) ?_
     with_reducible refine (slices_Clone_int_int.calls _ _ l0_1 t702 _ ?side1 ?side2 A5.out).mono ?_
     (case side1 => repeat (first | exact (Kd.C_below HR0_1.out HB.out) | (with_reducible first | apply cA | apply cN | apply cD)))
     (case side2 => exact HC0_1.out)
     rintro e w15 ⟨v703, rfl, ho0, hb⟩
     refine ⟨_, rfl, ?_⟩
     have n0_ := Aside0.mk (Kd.R_below (by (with_reducible repeat first | apply rA | apply rN | apply rD); exact HO701.out) hb)
     have n1_ := Aside0.mk (Kd.R_lower ho0 (below_size (by repeat with_reducible first | exact HB.out | apply bA | apply bN | apply bD | refine bS ?_ GE696.out | refine bS ?_ GE697.out)))
     have n2_ := Aside0.mk (blk_below (o := .cells #[.slice A0_0 l0_0.length c0_0, .slice A0_1 l0_1.length c0_1] 25 (0, 0)) (by with_reducible repeat first | exact BK696.out | apply kN | apply kD | apply kA) hb)
     have n3_ := Aside0.mk (blk_below (o := .cells #[.slice none 0 0, .slice none 0 0] 25 (0, 0)) (by with_reducible repeat first | exact BK697.out | apply kN | apply kD | apply kA) hb)
     have n4_ := Aside0.mk (below_step (by repeat with_reducible first | exact HB.out | apply bA | apply bN | apply bD | refine bS ?_ GE696.out | refine bS ?_ GE697.out) hb)
     clear HO701
     clear BK696
     clear BK697
     clear HB
     have HO701 := n0_
     have HO704 := n1_
     have BK696 := n2_
     have BK697 := n3_
     have HB := n4_
     clear n0_ n1_ n2_ n3_ n4_
     (try clear hb)
     (try clear hb2)
     (try clear hk)
     (try clear hi)
     (try clear ho0)
     obtain ⟨Ao16, co16, eo16⟩ := Kd.R_slice HO704.out
     (first | subst eo16 | (injection eo16 with f1_ f2_ f3_; have f4_ := f1_.symm; have f5_ := f3_.symm; clear f1_ f2_ f3_; subst f4_; subst f5_))
     obtain ⟨Ao17, co17, eo17⟩ := Kd.R_slice HO701.out
     (first | subst eo17 | (injection eo17 with f1_ f2_ f3_; have f4_ := f1_.symm; have f5_ := f3_.symm; clear f1_ f2_ f3_; subst f4_; subst f5_))
     refine hK.out _ _ ⟨(blk_cell BK696.out 0).trans rfl, (blk_cell BK696.out 1).trans rfl⟩ (fun hHeld => ?_)
     clear hK K
     refine norm_ (a' := ?_) ?_ ?_
     rotate_left
     ·
      show Act.put _ (some 17) _ = _
      simp only [Act.put, aS, lZ, lS, i64_w, i32_w]
      rfl
     refine pure_ (i := 6) (N := some 18) (v := ?_) (a' := ?_) (bm 9 127) rfl rfl (any_of HT_.out (by kernel_rfl)) (fun _ _ _ h => h) (Or.inl ⟨by rfl, ?_⟩) ?_ ?_
     rotate_left; (intro w'; go_simp; with_reducible rfl); rotate_left; (simp only [Act.put, aS, lZ, lS, i64_w, i32_w]; rfl)
     refine one_ (i := 7) (N := some 5) (bm 9 255) rfl rfl (one_of HT_.out (by kernel_rfl)) (by decide) (fun K hK => ?_)
     refine box_step ?hg (N := 5) ?hd (cs := #[.slice none 0 0, .slice none 0 0]) (t := 25) ?hr ?_; (case hd => rfl); (case hg => rfl); (case hr => first | (go_simp; done) | (go_simp; rfl))
     intro gb705 hg w18 hbox hb
     have n0_ := Aside0.mk (Kd.R_below (by (with_reducible repeat first | apply rA | apply rN | apply rD); exact HO701.out) hb)
     have n1_ := Aside0.mk (Kd.R_below (by (with_reducible repeat first | apply rA | apply rN | apply rD); exact HO704.out) hb)
     have n2_ := Aside0.mk (blk_below (o := .cells #[.slice A0_0 l0_0.length c0_0, .slice A0_1 l0_1.length c0_1] 25 (0, 0)) (by with_reducible repeat first | exact BK696.out | apply kN | apply kD | apply kA) hb)
     have n3_ := Aside0.mk (blk_below (o := .cells #[.slice none 0 0, .slice none 0 0] 25 (0, 0)) (by with_reducible repeat first | exact BK697.out | apply kN | apply kD | apply kA) hb)
     have n4_ := Aside0.mk (below_step (by repeat with_reducible first | exact HB.out | apply bA | apply bN | apply bD | refine bS ?_ GE696.out | refine bS ?_ GE697.out) hb)
     have n5_ := Aside0.mk (hbox)
     have n6_ := Aside0.mk ((by rw [hg]; exact (below_size (by repeat with_reducible first | exact HB.out | apply bA | apply bN | apply bD | refine bS ?_ GE696.out | refine bS ?_ GE697.out)) : w.heap.size ≤ gb705))
     have n7_ := Aside0.mk ((by rw [hg]; exact (below_size (by repeat with_reducible first | exact HB.out | apply bA | apply bN | apply bD | refine bS ?_ GE696.out | refine bS ?_ GE697.out)) : w.heap.size ≤ gb705))
     have n8_ := Aside0.mk ((by rw [hg]; exact Nat.ne_of_lt (blk_lt (by with_reducible repeat first | exact BK696.out | apply kN | apply kD | apply kA)) : gb696 ≠ gb705))
     have n9_ := Aside0.mk ((by rw [hg]; exact Nat.ne_of_gt (blk_lt (by with_reducible repeat first | exact BK696.out | apply kN | apply kD | apply kA)) : gb705 ≠ gb696))
     have n10_ := Aside0.mk ((by rw [hg]; exact Nat.ne_of_lt (blk_lt (by with_reducible repeat first | exact BK697.out | apply kN | apply kD | apply kA)) : gb697 ≠ gb705))
     have n11_ := Aside0.mk ((by rw [hg]; exact Nat.ne_of_gt (blk_lt (by with_reducible repeat first | exact BK697.out | apply kN | apply kD | apply kA)) : gb705 ≠ gb697))
     clear HO701
     clear HO704
     clear BK696
     clear BK697
     clear HB
     have HO701 := n0_
     have HO704 := n1_
     have BK696 := n2_
     have BK697 := n3_
     have HB := n4_
     have BK705 := n5_
     have GW705 := n6_
     have GE705 := n7_
     have NB696_705 := n8_
     have NB705_696 := n9_
     have NB697_705 := n10_
     have NB705_697 := n11_
     clear n0_ n1_ n2_ n3_ n4_ n5_ n6_ n7_ n8_ n9_ n10_ n11_
     clear hb hbox hg
     refine hK.out _ _ ⟨(blk_cell BK696.out 0).trans rfl, (blk_cell BK696.out 1).trans rfl⟩ (fun hHeld => ?_)
     clear hK K
     refine norm_ (a' := ?_) ?_ ?_
     rotate_left
     ·
      show Act.put _ (some 5) _ = _
      simp only [Act.put, aS, lZ, lS, i64_w, i32_w]
      rfl
     exact norm_ (by simp only [putAll, Act.put, List.setIfInBounds_toArray, List.set_cons_zero, List.set_cons_succ]) (hCont (.slice Ao17 t699.length co17, .slice Ao16 t702.length co16, gb705) _ ⟨hHeld, (by (with_reducible repeat first | apply rA | apply rN | apply rD); exact HO701.out), (by (with_reducible repeat first | apply rA | apply rN | apply rD); exact HO704.out), (by with_reducible repeat first | exact BK696.out | apply kN | apply kD | apply kA), (by with_reducible repeat first | exact BK697.out | apply kN | apply kD | apply kA), (by with_reducible repeat first | exact BK705.out | apply kN | apply kD | apply kA), GW705.out, GE705.out, NB696_705.out, NB705_696.out, NB697_705.out, NB705_697.out, (by repeat with_reducible first | exact HB.out | apply bA | apply bN | apply bD | refine bS ?_ GE696.out | refine bS ?_ GE697.out | refine bS ?_ GE705.out)⟩)
    ·
     skip
     refine box_step ?hg (N := 5) ?hd (cs := #[.slice none 0 0, .slice none 0 0]) (t := 25) ?hr ?_; (case hd => rfl); (case hg => rfl); (case hr => first | (go_simp; done) | (go_simp; rfl))
     intro gb705 hg w15 hbox hb
     have n0_ := Aside0.mk (Kd.R_below (by (with_reducible repeat first | apply rA | apply rN | apply rD); exact HO701.out) hb)
     have n1_ := Aside0.mk (blk_below (o := .cells #[.slice A0_0 l0_0.length c0_0, .slice A0_1 l0_1.length c0_1] 25 (0, 0)) (by with_reducible repeat first | exact BK696.out | apply kN | apply kD | apply kA) hb)
     have n2_ := Aside0.mk (blk_below (o := .cells #[.slice none 0 0, .slice none 0 0] 25 (0, 0)) (by with_reducible repeat first | exact BK697.out | apply kN | apply kD | apply kA) hb)
     have n3_ := Aside0.mk (below_step (by repeat with_reducible first | exact HB.out | apply bA | apply bN | apply bD | refine bS ?_ GE696.out | refine bS ?_ GE697.out) hb)
     have n4_ := Aside0.mk (hbox)
     have n5_ := Aside0.mk ((by rw [hg]; exact (below_size (by repeat with_reducible first | exact HB.out | apply bA | apply bN | apply bD | refine bS ?_ GE696.out | refine bS ?_ GE697.out)) : w.heap.size ≤ gb705))
     have n6_ := Aside0.mk ((by rw [hg]; exact (below_size (by repeat with_reducible first | exact HB.out | apply bA | apply bN | apply bD | refine bS ?_ GE696.out | refine bS ?_ GE697.out)) : w.heap.size ≤ gb705))
     have n7_ := Aside0.mk ((by rw [hg]; exact Nat.ne_of_lt (blk_lt (by with_reducible repeat first | exact BK696.out | apply kN | apply kD | apply kA)) : gb696 ≠ gb705))
     have n8_ := Aside0.mk ((by rw [hg]; exact Nat.ne_of_gt (blk_lt (by with_reducible repeat first | exact BK696.out | apply kN | apply kD | apply kA)) : gb705 ≠ gb696))
     have n9_ := Aside0.mk ((by rw [hg]; exact Nat.ne_of_lt (blk_lt (by with_reducible repeat first | exact BK697.out | apply kN | apply kD | apply kA)) : gb697 ≠ gb705))
     have n10_ := Aside0.mk ((by rw [hg]; exact Nat.ne_of_gt (blk_lt (by with_reducible repeat first | exact BK697.out | apply kN | apply kD | apply kA)) : gb705 ≠ gb697))
     clear HO701
     clear BK696
     clear BK697
     clear HB
     have HO701 := n0_
     have BK696 := n1_
     have BK697 := n2_
     have HB := n3_
     have BK705 := n4_
     have GW705 := n5_
     have GE705 := n6_
     have NB696_705 := n7_
     have NB705_696 := n8_
     have NB697_705 := n9_
     have NB705_697 := n10_
     clear n0_ n1_ n2_ n3_ n4_ n5_ n6_ n7_ n8_ n9_ n10_
     clear hb hbox hg
     refine hK.out _ _ ⟨(blk_cell BK696.out 0).trans rfl, (blk_cell BK696.out 1).trans rfl⟩ (fun hHeld => ?_)
     clear hK K
     refine norm_ (a' := ?_) ?_ ?_
     rotate_left
     ·
      show Act.put _ (some 5) _ = _
      simp only [Act.put, aS, lZ, lS, i64_w, i32_w]
      rfl
     refine one_ (i := 5) (N := some 17) (bm 9 191) rfl rfl (one_of HT_.out (by kernel_rfl)) (by decide) (fun K hK => ?_)
     refine goes_ Try.func38 (by kernel_rfl) rfl #[.slice A0_1 l0_1.length c0_1] (by rfl) rfl rfl (by (try simp only [List.map_toArray, List.map_cons, List.map_nil]); first | done | rfl | (simp only [List.length_drop, List.length_take]; rfl)) ?_
     with_reducible refine (slices_Clone_int_int.calls _ _ l0_1 t702 _ ?side1 ?side2 A5.out).mono ?_
     (case side1 => repeat (first | exact (Kd.C_below HR0_1.out HB.out) | (with_reducible first | apply cA | apply cN | apply cD)))
     (case side2 => exact HC0_1.out)
     rintro e w16 ⟨v703, rfl, ho0, hb⟩
     refine ⟨_, rfl, ?_⟩
     have n0_ := Aside0.mk (Kd.R_below (by (with_reducible repeat first | apply rA | apply rN | apply rD); exact HO701.out) hb)
     have n1_ := Aside0.mk (Kd.R_lower ho0 (below_size (by repeat with_reducible first | exact HB.out | apply bA | apply bN | apply bD | refine bS ?_ GE696.out | refine bS ?_ GE697.out | refine bS ?_ GE705.out)))
     have n2_ := Aside0.mk (blk_below (o := .cells #[.slice A0_0 l0_0.length c0_0, .slice A0_1 l0_1.length c0_1] 25 (0, 0)) (by with_reducible repeat first | exact BK696.out | apply kN | apply kD | apply kA) hb)
     have n3_ := Aside0.mk (blk_below (o := .cells #[.slice none 0 0, .slice none 0 0] 25 (0, 0)) (by with_reducible repeat first | exact BK697.out | apply kN | apply kD | apply kA) hb)
     have n4_ := Aside0.mk (blk_below (o := .cells #[.slice none 0 0, .slice none 0 0] 25 (0, 0)) (by with_reducible repeat first | exact BK705.out | apply kN | apply kD | apply kA) hb)
     have n5_ := Aside0.mk (below_step (by repeat with_reducible first | exact HB.out | apply bA | apply bN | apply bD | refine bS ?_ GE696.out | refine bS ?_ GE697.out | refine bS ?_ GE705.out) hb)
     clear HO701
     clear BK696
     clear BK697
     clear BK705
     clear HB
     have HO701 := n0_
     have HO704 := n1_
     have BK696 := n2_
     have BK697 := n3_
     have BK705 := n4_
     have HB := n5_
     clear n0_ n1_ n2_ n3_ n4_ n5_
     (try clear hb)
     (try clear hb2)
     (try clear hk)
     (try clear hi)
     (try clear ho0)
     obtain ⟨Ao17, co17, eo17⟩ := Kd.R_slice HO704.out
     (first | subst eo17 | (injection eo17 with f1_ f2_ f3_; have f4_ := f1_.symm; have f5_ := f3_.symm; clear f1_ f2_ f3_; subst f4_; subst f5_))
     obtain ⟨Ao18, co18, eo18⟩ := Kd.R_slice HO701.out
     (first | subst eo18 | (injection eo18 with f1_ f2_ f3_; have f4_ := f1_.symm; have f5_ := f3_.symm; clear f1_ f2_ f3_; subst f4_; subst f5_))
     refine hK.out _ _ ⟨(blk_cell BK696.out 0).trans rfl, (blk_cell BK696.out 1).trans rfl⟩ (fun hHeld => ?_)
     clear hK K
     refine norm_ (a' := ?_) ?_ ?_
     rotate_left
     ·
      show Act.put _ (some 17) _ = _
      simp only [Act.put, aS, lZ, lS, i64_w, i32_w]
      rfl
     refine pure_ (i := 6) (N := some 18) (v := ?_) (a' := ?_) (bm 9 255) rfl rfl (any_of HT_.out (by kernel_rfl)) (fun _ _ _ h => h) (Or.inl ⟨by rfl, ?_⟩) ?_ ?_
     rotate_left; (intro w'; go_simp; with_reducible rfl); rotate_left; (simp only [Act.put, aS, lZ, lS, i64_w, i32_w]; rfl)
     exact norm_ (by simp only [putAll, Act.put, List.setIfInBounds_toArray, List.set_cons_zero, List.set_cons_succ]) (hCont (.slice Ao18 t699.length co18, .slice Ao17 t702.length co17, gb705) _ ⟨hHeld, (by (with_reducible repeat first | apply rA | apply rN | apply rD); exact HO701.out), (by (with_reducible repeat first | apply rA | apply rN | apply rD); exact HO704.out), (by with_reducible repeat first | exact BK696.out | apply kN | apply kD | apply kA), (by with_reducible repeat first | exact BK697.out | apply kN | apply kD | apply kA), (by with_reducible repeat first | exact BK705.out | apply kN | apply kD | apply kA), GW705.out, GE705.out, NB696_705.out, NB705_696.out, NB697_705.out, NB705_697.out, (by repeat with_reducible first | exact HB.out | apply bA | apply bN | apply bD | refine bS ?_ GE696.out | refine bS ?_ GE697.out | refine bS ?_ GE705.out)⟩)
   ·
    skip
    refine box_step ?hg (N := 5) ?hd (cs := #[.slice none 0 0, .slice none 0 0]) (t := 25) ?hr ?_; (case hd => rfl); (case hg => rfl); (case hr => first | (go_simp; done) | (go_simp; rfl))
    intro gb705 hg w14 hbox hb
    have n0_ := Aside0.mk (blk_below (o := .cells #[.slice A0_0 l0_0.length c0_0, .slice A0_1 l0_1.length c0_1] 25 (0, 0)) (by with_reducible repeat first | exact BK696.out | apply kN | apply kD | apply kA) hb)
    have n1_ := Aside0.mk (blk_below (o := .cells #[.slice none 0 0, .slice none 0 0] 25 (0, 0)) (by with_reducible repeat first | exact BK697.out | apply kN | apply kD | apply kA) hb)
    have n2_ := Aside0.mk (below_step (by repeat with_reducible first | exact HB.out | apply bA | apply bN | apply bD | refine bS ?_ GE696.out | refine bS ?_ GE697.out) hb)
    have n3_ := Aside0.mk (hbox)
    have n4_ := Aside0.mk ((by rw [hg]; exact (below_size (by repeat with_reducible first | exact HB.out | apply bA | apply bN | apply bD | refine bS ?_ GE696.out | refine bS ?_ GE697.out)) : w.heap.size ≤ gb705))
    have n5_ := Aside0.mk ((by rw [hg]; exact (below_size (by repeat with_reducible first | exact HB.out | apply bA | apply bN | apply bD | refine bS ?_ GE696.out | refine bS ?_ GE697.out)) : w.heap.size ≤ gb705))
    have n6_ := Aside0.mk ((by rw [hg]; exact Nat.ne_of_lt (blk_lt (by with_reducible repeat first | exact BK696.out | apply kN | apply kD | apply kA)) : gb696 ≠ gb705))
    have n7_ := Aside0.mk ((by rw [hg]; exact Nat.ne_of_gt (blk_lt (by with_reducible repeat first | exact BK696.out | apply kN | apply kD | apply kA)) : gb705 ≠ gb696))
    have n8_ := Aside0.mk ((by rw [hg]; exact Nat.ne_of_lt (blk_lt (by with_reducible repeat first | exact BK697.out | apply kN | apply kD | apply kA)) : gb697 ≠ gb705))
    have n9_ := Aside0.mk ((by rw [hg]; exact Nat.ne_of_gt (blk_lt (by with_reducible repeat first | exact BK697.out | apply kN | apply kD | apply kA)) : gb705 ≠ gb697))
    clear BK696
    clear BK697
    clear HB
    have BK696 := n0_
    have BK697 := n1_
    have HB := n2_
    have BK705 := n3_
    have GW705 := n4_
    have GE705 := n5_
    have NB696_705 := n6_
    have NB705_696 := n7_
    have NB697_705 := n8_
    have NB705_697 := n9_
    clear n0_ n1_ n2_ n3_ n4_ n5_ n6_ n7_ n8_ n9_
    clear hb hbox hg
    refine hK.out _ _ ⟨(blk_cell BK696.out 0).trans rfl, (blk_cell BK696.out 1).trans rfl⟩ (fun hHeld => ?_)
    clear hK K
    refine norm_ (a' := ?_) ?_ ?_
    rotate_left
    ·
     show Act.put _ (some 5) _ = _
     simp only [Act.put, aS, lZ, lS, i64_w, i32_w]
     rfl
    refine one_ (i := 2) (N := some 14) (bm 9 159) rfl rfl (one_of HT_.out (by kernel_rfl)) (by decide) (fun K hK => ?_)
    refine goes_ Try.func37 (by kernel_rfl) rfl #[.slice A0_0 l0_0.length c0_0] (by rfl) rfl rfl (by (try simp only [List.map_toArray, List.map_cons, List.map_nil]); first | done | rfl | (simp only [List.length_drop, List.length_take]; rfl)) ?_
    with_reducible refine (api_Pose_37.calls _ _ l0_0 t699 _ ?side1 ?side2 A4.out).mono ?_
    (case side1 => repeat (first | exact (Kd.C_below HR0_0.out HB.out) | (with_reducible first | apply cA | apply cN | apply cD)))
    (case side2 => exact HC0_0.out)
    rintro e w15 ⟨v700, rfl, ho0, hb⟩
    refine ⟨_, rfl, ?_⟩
    have n0_ := Aside0.mk (Kd.R_lower ho0 (below_size (by repeat with_reducible first | exact HB.out | apply bA | apply bN | apply bD | refine bS ?_ GE696.out | refine bS ?_ GE697.out | refine bS ?_ GE705.out)))
    have n1_ := Aside0.mk (blk_below (o := .cells #[.slice A0_0 l0_0.length c0_0, .slice A0_1 l0_1.length c0_1] 25 (0, 0)) (by with_reducible repeat first | exact BK696.out | apply kN | apply kD | apply kA) hb)
    have n2_ := Aside0.mk (blk_below (o := .cells #[.slice none 0 0, .slice none 0 0] 25 (0, 0)) (by with_reducible repeat first | exact BK697.out | apply kN | apply kD | apply kA) hb)
    have n3_ := Aside0.mk (blk_below (o := .cells #[.slice none 0 0, .slice none 0 0] 25 (0, 0)) (by with_reducible repeat first | exact BK705.out | apply kN | apply kD | apply kA) hb)
    have n4_ := Aside0.mk (below_step (by repeat with_reducible first | exact HB.out | apply bA | apply bN | apply bD | refine bS ?_ GE696.out | refine bS ?_ GE697.out | refine bS ?_ GE705.out) hb)
    clear BK696
    clear BK697
    clear BK705
    clear HB
    have HO701 := n0_
    have BK696 := n1_
    have BK697 := n2_
    have BK705 := n3_
    have HB := n4_
    clear n0_ n1_ n2_ n3_ n4_
    (try clear hb)
    (try clear hb2)
    (try clear hk)
    (try clear hi)
    (try clear ho0)
    refine hK.out _ _ ⟨(blk_cell BK696.out 0).trans rfl, (blk_cell BK696.out 1).trans rfl⟩ (fun hHeld => ?_)
    clear hK K
    refine norm_ (a' := ?_) ?_ ?_
    rotate_left
    ·
     show Act.put _ (some 14) _ = _
     simp only [Act.put, aS, lZ, lS, i64_w, i32_w]
     rfl
    refine one_ (i := 5) (N := some 17) (bm 9 191) rfl rfl (one_of HT_.out (by kernel_rfl)) (by decide) (fun K hK => ?_)
    refine goes_ Try.func38 (by kernel_rfl) rfl #[.slice A0_1 l0_1.length c0_1] (by rfl) rfl rfl (by (try simp only [List.map_toArray, List.map_cons, List.map_nil]); first | done | rfl | (simp only [List.length_drop, List.length_take]; rfl)) ?_
    with_reducible refine (slices_Clone_int_int.calls _ _ l0_1 t702 _ ?side1 ?side2 A5.out).mono ?_
    (case side1 => repeat (first | exact (Kd.C_below HR0_1.out HB.out) | (with_reducible first | apply cA | apply cN | apply cD)))
    (case side2 => exact HC0_1.out)
    rintro e w16 ⟨v703, rfl, ho0, hb⟩
    refine ⟨_, rfl, ?_⟩
    have n0_ := Aside0.mk (Kd.R_below (by (with_reducible repeat first | apply rA | apply rN | apply rD); exact HO701.out) hb)
    have n1_ := Aside0.mk (Kd.R_lower ho0 (below_size (by repeat with_reducible first | exact HB.out | apply bA | apply bN | apply bD | refine bS ?_ GE696.out | refine bS ?_ GE697.out | refine bS ?_ GE705.out)))
    have n2_ := Aside0.mk (blk_below (o := .cells #[.slice A0_0 l0_0.length c0_0, .slice A0_1 l0_1.length c0_1] 25 (0, 0)) (by with_reducible repeat first | exact BK696.out | apply kN | apply kD | apply kA) hb)
    have n3_ := Aside0.mk (blk_below (o := .cells #[.slice none 0 0, .slice none 0 0] 25 (0, 0)) (by with_reducible repeat first | exact BK697.out | apply kN | apply kD | apply kA) hb)
    have n4_ := Aside0.mk (blk_below (o := .cells #[.slice none 0 0, .slice none 0 0] 25 (0, 0)) (by with_reducible repeat first | exact BK705.out | apply kN | apply kD | apply kA) hb)
    have n5_ := Aside0.mk (below_step (by repeat with_reducible first | exact HB.out | apply bA | apply bN | apply bD | refine bS ?_ GE696.out | refine bS ?_ GE697.out | refine bS ?_ GE705.out) hb)
    clear HO701
    clear BK696
    clear BK697
    clear BK705
    clear HB
    have HO701 := n0_
    have HO704 := n1_
    have BK696 := n2_
    have BK697 := n3_
    have BK705 := n4_
    have HB := n5_
    clear n0_ n1_ n2_ n3_ n4_ n5_
    (try clear hb)
    (try clear hb2)
    (try clear hk)
    (try clear hi)
    (try clear ho0)
    obtain ⟨Ao17, co17, eo17⟩ := Kd.R_slice HO704.out
    (first | subst eo17 | (injection eo17 with f1_ f2_ f3_; have f4_ := f1_.symm; have f5_ := f3_.symm; clear f1_ f2_ f3_; subst f4_; subst f5_))
    obtain ⟨Ao18, co18, eo18⟩ := Kd.R_slice HO701.out
    (first | subst eo18 | (injection eo18 with f1_ f2_ f3_; have f4_ := f1_.symm; have f5_ := f3_.symm; clear f1_ f2_ f3_; subst f4_; subst f5_))
    refine hK.out _ _ ⟨(blk_cell BK696.out 0).trans rfl, (blk_cell BK696.out 1).trans rfl⟩ (fun hHeld => ?_)
    clear hK K
    refine norm_ (a' := ?_) ?_ ?_
    rotate_left
    ·
     show Act.put _ (some 17) _ = _
     simp only [Act.put, aS, lZ, lS, i64_w, i32_w]
     rfl
    refine pure_ (i := 6) (N := some 18) (v := ?_) (a' := ?_) (bm 9 255) rfl rfl (any_of HT_.out (by kernel_rfl)) (fun _ _ _ h => h) (Or.inl ⟨by rfl, ?_⟩) ?_ ?_
    rotate_left; (intro w'; go_simp; with_reducible rfl); rotate_left; (simp only [Act.put, aS, lZ, lS, i64_w, i32_w]; rfl)
    exact norm_ (by simp only [putAll, Act.put, List.setIfInBounds_toArray, List.set_cons_zero, List.set_cons_succ]) (hCont (.slice Ao18 t699.length co18, .slice Ao17 t702.length co17, gb705) _ ⟨hHeld, (by (with_reducible repeat first | apply rA | apply rN | apply rD); exact HO701.out), (by (with_reducible repeat first | apply rA | apply rN | apply rD); exact HO704.out), (by with_reducible repeat first | exact BK696.out | apply kN | apply kD | apply kA), (by with_reducible repeat first | exact BK697.out | apply kN | apply kD | apply kA), (by with_reducible repeat first | exact BK705.out | apply kN | apply kD | apply kA), GW705.out, GE705.out, NB696_705.out, NB705_696.out, NB697_705.out, NB705_697.out, (by repeat with_reducible first | exact HB.out | apply bA | apply bN | apply bD | refine bS ?_ GE696.out | refine bS ?_ GE697.out | refine bS ?_ GE705.out)⟩)
  rintro ⟨v700, v703, gb705⟩ w19 ⟨hS_, h0_, h1_, h2_, h3_, h4_, h5_, h6_, h7_, h8_, h9_, h10_, h11_⟩
  have n0_ : Aside0 (Kd.R k53 53 w19 w.heap.size (fun _ => True) v700 t699) := ⟨h0_⟩
  have n1_ : Aside0 (Kd.R (Kd.int .i64) 3 w19 w.heap.size (fun _ => True) v703 t702) := ⟨h1_⟩
  have n2_ : Aside0 (w19.heap[gb696]? = some (.cells #[.slice A0_0 l0_0.length c0_0, .slice A0_1 l0_1.length c0_1] 25 (0, 0))) := ⟨h2_⟩
  have n3_ : Aside0 (w19.heap[gb697]? = some (.cells #[.slice none 0 0, .slice none 0 0] 25 (0, 0))) := ⟨h3_⟩
  have n4_ : Aside0 (w19.heap[gb705]? = some (.cells #[.slice none 0 0, .slice none 0 0] 25 (0, 0))) := ⟨h4_⟩
  have n5_ : Aside0 (w.heap.size ≤ gb705) := ⟨h5_⟩
  have n6_ : Aside0 (w.heap.size ≤ gb705) := ⟨h6_⟩
  have n7_ : Aside0 (gb696 ≠ gb705) := ⟨h7_⟩
  have n8_ : Aside0 (gb705 ≠ gb696) := ⟨h8_⟩
  have n9_ : Aside0 (gb697 ≠ gb705) := ⟨h9_⟩
  have n10_ : Aside0 (gb705 ≠ gb697) := ⟨h10_⟩
  have n11_ : Aside0 (Below w.heap.size w w19) := ⟨h11_⟩
  clear BK696
  clear BK697
  clear HB
  clear h0_ h1_ h2_ h3_ h4_ h5_ h6_ h7_ h8_ h9_ h10_ h11_
  have HO701 := n0_
  have HO704 := n1_
  have BK696 := n2_
  have BK697 := n3_
  have BK705 := n4_
  have GW705 := n5_
  have GE705 := n6_
  have NB696_705 := n7_
  have NB705_696 := n8_
  have NB697_705 := n9_
  have NB705_697 := n10_
  have HB := n11_
  clear n0_ n1_ n2_ n3_ n4_ n5_ n6_ n7_ n8_ n9_ n10_ n11_
  have hHeld : w19.cell? ⟨gb696, 0, none⟩ = some (.slice A0_0 l0_0.length c0_0) ∧ w19.cell? ⟨gb696, 1, none⟩ = some (.slice A0_1 l0_1.length c0_1) := hS_
  obtain ⟨Ao20, co20, eo20⟩ := Kd.R_slice HO704.out
  (first | subst eo20 | (injection eo20 with f1_ f2_ f3_; have f4_ := f1_.symm; have f5_ := f3_.symm; clear f1_ f2_ f3_; subst f4_; subst f5_))
  obtain ⟨Ao21, co21, eo21⟩ := Kd.R_slice HO701.out
  (first | subst eo21 | (injection eo21 with f1_ f2_ f3_; have f4_ := f1_.symm; have f5_ := f3_.symm; clear f1_ f2_ f3_; subst f4_; subst f5_))
  refine norm_ (a' := ?_) ?_ ?_
  rotate_left
  ·
   simp only [putAll, Act.put, List.setIfInBounds_toArray, List.set_cons_zero, List.set_cons_succ]
   rfl
  refine one_ (i := 8) (N := none) (bm 9 511) rfl rfl (one_of HT_.out (by kernel_rfl)) (by decide) (fun K hK => ?_)
  have hs22 : w19.cell? ⟨gb705, 0, none⟩ = some (.slice none 0 0) := (blk_cell BK705.out 0).trans rfl
  have hfs22 := blk_frozen BK705.out 0
  have hns22_0 := NB696_705.out
  have hns22_1 := NB697_705.out
  have hms22_0 := NB705_696.out
  have hms22_1 := NB705_697.out
  have hs23 : w19.cell? ⟨gb705, 1, none⟩ = some (.slice none 0 0) := (blk_cell BK705.out 1).trans rfl
  have hfs23 := blk_frozen BK705.out 1
  have hns23_0 := NB696_705.out
  have hns23_1 := NB697_705.out
  have hms23_0 := NB705_696.out
  have hms23_1 := NB705_697.out
  refine skip_ (w1 := ?_) (by rfl) rfl ?_ ?_
  rotate_left
  ·
   go_simp
   rfl
  refine hK.out _ _ ⟨((cell_far (p := ⟨gb705, _, none⟩) NB696_705.out _).trans (((cell_far (p := ⟨gb705, _, none⟩) NB696_705.out _).trans (hHeld.1)))), ((cell_far (p := ⟨gb705, _, none⟩) NB696_705.out _).trans (((cell_far (p := ⟨gb705, _, none⟩) NB696_705.out _).trans (hHeld.2))))⟩ (fun hHeld => ?_)
  clear hK K
  refine done_ (done_of HT_.out (by kernel_rfl)) ?_
  have n0_ : Aside0 (Kd.R k53 53 ((w19.setCell ⟨gb705, 0, none⟩ (.slice Ao21 t699.length co21)).setCell ⟨gb705, 1, none⟩ (.slice Ao20 t702.length co20)) w.heap.size (fun _ => True) (.slice Ao21 t699.length co21) t699) := ⟨by (with_reducible repeat first | apply rA | apply rN | apply rD); exact Kd.R_mono (Kd.R_far (p := ⟨gb705, 1, none⟩) (Kd.R_far (p := ⟨gb705, 0, none⟩) (Kd.R_types HO701.out BK705.out (by decide)) (fun _ hk => hk.2) (.slice Ao21 t699.length co21)) (fun _ hk => hk.2) (.slice Ao20 t702.length co20)) (fun _ hk => trivial)⟩
  have n1_ : Aside0 (Kd.R (Kd.int .i64) 3 ((w19.setCell ⟨gb705, 0, none⟩ (.slice Ao21 t699.length co21)).setCell ⟨gb705, 1, none⟩ (.slice Ao20 t702.length co20)) w.heap.size (fun _ => True) (.slice Ao20 t702.length co20) t702) := ⟨by (with_reducible repeat first | apply rA | apply rN | apply rD); exact Kd.R_mono (Kd.R_far (p := ⟨gb705, 1, none⟩) (Kd.R_far (p := ⟨gb705, 0, none⟩) (Kd.R_types HO704.out BK705.out (by decide)) (fun _ hk => hk.2) (.slice Ao21 t699.length co21)) (fun _ hk => hk.2) (.slice Ao20 t702.length co20)) (fun _ hk => trivial)⟩
  have n2_ : Aside0 (((w19.setCell ⟨gb705, 0, none⟩ (.slice Ao21 t699.length co21)).setCell ⟨gb705, 1, none⟩ (.slice Ao20 t702.length co20)).heap[gb696]? = some (.cells #[.slice A0_0 l0_0.length c0_0, .slice A0_1 l0_1.length c0_1] 25 (0, 0))) := ⟨by (with_reducible repeat first | apply kN | apply kD | apply kA); refine blk_far ?_ NB696_705.out _; (with_reducible repeat first | apply kN | apply kD | apply kA); refine blk_far ?_ NB696_705.out _; (with_reducible repeat first | apply kN | apply kD | apply kA); exact BK696.out⟩
  have n3_ : Aside0 (((w19.setCell ⟨gb705, 0, none⟩ (.slice Ao21 t699.length co21)).setCell ⟨gb705, 1, none⟩ (.slice Ao20 t702.length co20)).heap[gb697]? = some (.cells #[.slice none 0 0, .slice none 0 0] 25 (0, 0))) := ⟨by (with_reducible repeat first | apply kN | apply kD | apply kA); refine blk_far ?_ NB697_705.out _; (with_reducible repeat first | apply kN | apply kD | apply kA); refine blk_far ?_ NB697_705.out _; (with_reducible repeat first | apply kN | apply kD | apply kA); exact BK697.out⟩
  have n4_ : Aside0 (((w19.setCell ⟨gb705, 0, none⟩ (.slice Ao21 t699.length co21)).setCell ⟨gb705, 1, none⟩ (.slice Ao20 t702.length co20)).heap[gb705]? = some (.cells #[.slice Ao21 t699.length co21, .slice Ao20 t702.length co20] 25 (0, 0))) := ⟨by (with_reducible repeat first | apply kN | apply kD | apply kA); refine blk_put (cs := #[.slice Ao21 t699.length co21, .slice none 0 0]) ?_ 1 _ rfl; (with_reducible repeat first | apply kN | apply kD | apply kA); refine blk_put (cs := #[.slice none 0 0, .slice none 0 0]) ?_ 0 _ rfl; (with_reducible repeat first | apply kN | apply kD | apply kA); exact BK705.out⟩
  have n5_ : Aside0 (Below w.heap.size w ((w19.setCell ⟨gb705, 0, none⟩ (.slice Ao21 t699.length co21)).setCell ⟨gb705, 1, none⟩ (.slice Ao20 t702.length co20))) := ⟨by repeat with_reducible first | exact HB.out | apply bA | apply bN | apply bD | refine bS ?_ GE696.out | refine bS ?_ GE697.out | refine bS ?_ GE705.out⟩
  (try clear HO701)
  (try clear HO704)
  (try clear BK696)
  (try clear BK697)
  (try clear BK705)
  (try clear HB)
  generalize ((w19.setCell ⟨gb705, 0, none⟩ (.slice Ao21 t699.length co21)).setCell ⟨gb705, 1, none⟩ (.slice Ao20 t702.length co20)) = w24 at n0_ n1_ n2_ n3_ n4_ n5_ ⊢
  have HO701 := n0_
  have HO704 := n1_
  have BK696 := n2_
  have BK697 := n3_
  have BK705 := n4_
  have HB := n5_
  clear n0_ n1_ n2_ n3_ n4_ n5_
  have hnb25 := NB705_696.out
  have hnc25 := NB696_705.out
  have hnb26 := NB705_697.out
  have hnc26 := NB697_705.out
  obtain ⟨hcz27_0, hcz27_1, hfz27_0, hfz27_1⟩ := kc2 BK705.out
  try go_wp2_with (first | ((with_reducible refine gate_callee (f := 39) rfl ?_); refine goesL_ (some 21) rfl rfl Try.func39 (by kernel_rfl) rfl #[.slice Ao21 t699.length co21] rfl (by (try simp only [List.map_toArray, List.map_cons, List.map_nil]); first | done | rfl | (simp only [List.length_drop, List.length_take]; rfl)) ?_; (with_reducible refine (api_Pose_39.calls k (fun k_ => some k_ = (.slice Ao21 t699.length co21 : Value).ownBlock) (.slice Ao21 t699.length co21) t699 t706 w _ ?side1 ?side2 A6.out).mono ?_); (case side1 => repeat (first | (with_reducible first | exact HB.out | apply below_alloc | apply pw_below_drewN | apply below_drew1 | refine below_set ?_ GE696.out | refine below_set ?_ GE697.out | refine below_set ?_ GE705.out) | exact HB.out)); (case side2 => exact Kd.R_tight rfl HO701.out); rintro e w28 ⟨rfl, hy0, hb, hkp⟩; refine ⟨_, rfl, ?_⟩; replace BK696 := Aside0.mk (blk_kept (by with_reducible repeat first | exact BK696.out | apply kN | apply kD | apply kA) hkp (fun hs_ => (fun e_ => (Kd.R_ne HO701.out BK696.out (by decide)) e_) hs_)); replace BK697 := Aside0.mk (blk_kept (by with_reducible repeat first | exact BK697.out | apply kN | apply kD | apply kA) hkp (fun hs_ => (fun e_ => (Kd.R_ne HO701.out BK697.out (by decide)) e_) hs_)); replace HO704 := Aside0.mk (Kd.R_mono (ok' := fun k_ => True) (Kd.R_keptB ((Kd.R_apart' HO704.out (Kd.R_typed HO701.out) (by decide))) hkp (fun k_ hk_ hs_ => (hk_.2) hs_)) (fun k_ hk_ => trivial)); replace BK705 := Aside0.mk (blk_kept (by with_reducible repeat first | exact BK705.out | apply kN | apply kD | apply kA) hkp (fun hs_ => (fun e_ => (Kd.R_ne HO701.out BK705.out (by decide)) e_) hs_)); replace HO701 := Aside0.mk (Kd.R_reok rfl hy0 (fun k_ e_ => HO701.out.1 k_ e_)); replace HB := Aside0.mk (hb); (try clear hb); (try clear hkp); (try clear hy0); obtain ⟨hcz29_0, hcz29_1, hfz29_0, hfz29_1⟩ := kc2 BK705.out) | ((with_reducible refine gate_callee (f := 40) rfl ?_); refine goesL_ (some 24) rfl rfl Try.func40 (by kernel_rfl) rfl #[.slice Ao20 t702.length co20] rfl (by (try simp only [List.map_toArray, List.map_cons, List.map_nil]); first | done | rfl | (simp only [List.length_drop, List.length_take]; rfl)) ?_; (with_reducible refine (slices_Reverse_int_int.calls k (fun k_ => some k_ = (.slice Ao20 t702.length co20 : Value).ownBlock) (.slice Ao20 t702.length co20) t702 t707 w _ ?side1 ?side2 A7.out).mono ?_); (case side1 => repeat (first | (with_reducible first | exact HB.out | apply below_alloc | apply pw_below_drewN | apply below_drew1 | refine below_set ?_ GE696.out | refine below_set ?_ GE697.out | refine below_set ?_ GE705.out) | exact HB.out)); (case side2 => exact Kd.R_tight rfl HO704.out); rintro e w30 ⟨rfl, hy0, hb, hkp⟩; refine ⟨_, rfl, ?_⟩; replace BK696 := Aside0.mk (blk_kept (by with_reducible repeat first | exact BK696.out | apply kN | apply kD | apply kA) hkp (fun hs_ => (fun e_ => (Kd.R_ne HO704.out BK696.out (by decide)) e_) hs_)); replace BK697 := Aside0.mk (blk_kept (by with_reducible repeat first | exact BK697.out | apply kN | apply kD | apply kA) hkp (fun hs_ => (fun e_ => (Kd.R_ne HO704.out BK697.out (by decide)) e_) hs_)); replace HO701 := Aside0.mk (Kd.R_mono (ok' := fun k_ => True) (Kd.R_keptB ((Kd.R_apart' HO701.out (Kd.R_typed HO704.out) (by decide))) hkp (fun k_ hk_ hs_ => (hk_.2) hs_)) (fun k_ hk_ => trivial)); replace BK705 := Aside0.mk (blk_kept (by with_reducible repeat first | exact BK705.out | apply kN | apply kD | apply kA) hkp (fun hs_ => (fun e_ => (Kd.R_ne HO704.out BK705.out (by decide)) e_) hs_)); replace HO704 := Aside0.mk (Kd.R_reok rfl hy0 (fun k_ e_ => HO704.out.1 k_ e_)); replace HB := Aside0.mk (hb); (try clear hb); (try clear hkp); (try clear hy0); obtain ⟨hcz31_0, hcz31_1, hfz31_0, hfz31_1⟩ := kc2 BK705.out; obtain ⟨hcz32_0, hcz32_1, hfz32_0, hfz32_1⟩ := kc2 BK697.out))
  refine bodyPost_ret (results_ct rfl _ _ gb697 25 #[.slice Ao21 t699.length co21, .slice Ao20 t702.length co20] (0, 0) _ rfl (by (with_reducible repeat first | apply kN | apply kD | apply kA); refine blk_put (cs := #[.slice Ao21 t699.length co21, .slice none 0 0]) ?_ 1 _ rfl; (with_reducible repeat first | apply kN | apply kD | apply kA); refine blk_put (cs := #[.slice none 0 0, .slice none 0 0]) ?_ 0 _ rfl; (with_reducible repeat first | apply kN | apply kD | apply kA); exact BK697.out) Try.underlying25 rfl (by kernel_rfl)) rfl ?_
  exact ⟨_, _, by first | rfl | (simp [errW_none, errW_some] <;> rfl) | (simp [*, errW_none, errW_some] <;> rfl), by (with_reducible repeat first | apply rA | apply rN | apply rD); exact Kd.R_mono (Kd.R_far (p := ⟨gb697, 1, none⟩) (Kd.R_far (p := ⟨gb697, 0, none⟩) (Kd.R_types HO701.out BK697.out (by decide)) (fun _ hk => hk.2) (.slice Ao21 t699.length co21)) (fun _ hk => hk.2) (.slice Ao20 t702.length co20)) (fun _ hk => trivial), by (with_reducible repeat first | apply rA | apply rN | apply rD); exact Kd.R_mono (Kd.R_far (p := ⟨gb697, 1, none⟩) (Kd.R_far (p := ⟨gb697, 0, none⟩) (Kd.R_types HO704.out BK697.out (by decide)) (fun _ hk => hk.2) (.slice Ao21 t699.length co21)) (fun _ hk => hk.2) (.slice Ao20 t702.length co20)) (fun _ hk => trivial), by repeat with_reducible first | exact HB.out | apply bA | apply bN | apply bD | refine bS ?_ GE696.out | refine bS ?_ GE697.out | refine bS ?_ GE705.out⟩
 ·
  rw [if_neg c3] at H
  have c3b0 : (t698 == 0) = false := beq_eq_false_iff_ne.mpr c3
  have c3b1 : (t698 != 0) = true := bne_iff_ne.mpr c3
  simp only [Option.some.injEq, Prod.mk.injEq] at H
  obtain ⟨rfl, rfl, rfl⟩ := H
  go_enter Try.func23, Try.ntmps23
  go_wp2_with (first | ((with_reducible refine gate_dst (N := 1) rfl ?_); refine box_event ?hg (N := 1) ?hd (cs := #[.slice A0_0 l0_0.length c0_0, .slice A0_1 l0_1.length c0_1]) (t := 25) ?hr ?_; (case hd => rfl); (case hg => rfl); (case hr => first | (go_simp; done) | (go_simp; rfl)); intro gb696 hg w33 hbox hb; have BK696 := Aside0.mk (hbox); have GW696 := Aside0.mk ((by rw [hg]; exact (below_size (by repeat with_reducible first | exact HB.out | apply bA | apply bN | apply bD)) : w.heap.size ≤ gb696)); have GE696 := GW696; replace HB := Aside0.mk (below_step (by repeat with_reducible first | exact HB.out | apply bA | apply bN | apply bD) hb); clear hb hbox hg) | ((with_reducible refine gate_dst (N := 2) rfl ?_); refine box_event ?hg (N := 2) ?hd (cs := #[.slice none 0 0, .slice none 0 0]) (t := 25) ?hr ?_; (case hd => rfl); (case hg => rfl); (case hr => first | (go_simp; done) | (go_simp; rfl)); intro gb697 hg w34 hbox hb; have BK697 := Aside0.mk (hbox); have GW697 := Aside0.mk ((by rw [hg]; exact (below_size (by repeat with_reducible first | exact HB.out | apply bA | apply bN | apply bD | refine bS ?_ GE696.out)) : w.heap.size ≤ gb697)); have GE697 := GW697; replace HB := Aside0.mk (below_step (by repeat with_reducible first | exact HB.out | apply bA | apply bN | apply bD | refine bS ?_ GE696.out) hb); have NB696_697 := Aside0.mk ((by rw [hg]; exact Nat.ne_of_lt (blk_lt (by with_reducible repeat first | exact BK696.out | apply kN | apply kD | apply kA)) : gb696 ≠ gb697)); have NB697_696 := Aside0.mk ((by rw [hg]; exact Nat.ne_of_gt (blk_lt (by with_reducible repeat first | exact BK696.out | apply kN | apply kD | apply kA)) : gb697 ≠ gb696)); replace BK696 := Aside0.mk (blk_below (o := .cells #[.slice A0_0 l0_0.length c0_0, .slice A0_1 l0_1.length c0_1] 25 (0, 0)) (by with_reducible repeat first | exact BK696.out | apply kN | apply kD | apply kA) hb); clear hb hbox hg; have hnb35 := NB696_697.out; have hnc35 := NB697_696.out; obtain ⟨hcz36_0, hcz36_1, hfz36_0, hfz36_1⟩ := kc2 BK696.out) | ((with_reducible refine gate_callee (f := 21) rfl ?_); refine goesL_ (some 7) rfl rfl Try.func21 (by kernel_rfl) rfl #[.agg #[.slice A0_0 l0_0.length c0_0, .slice A0_1 l0_1.length c0_1]] rfl (by (try simp only [List.map_toArray, List.map_cons, List.map_nil]); first | done | rfl | (simp only [List.length_drop, List.length_take]; rfl)) ?_; (with_reducible refine (movement_Check.calls k _ _ l0_0 _ _ l0_1 t698 _ ?side1 ?side2 ?side3 ?side4 A2.out).mono ?_); (case side1 => repeat (first | exact (Kd.C_below HR0_0.out HB.out) | (with_reducible first | apply cA | apply cN | apply cD))); (case side2 => exact HC0_0.out); (case side3 => repeat (first | exact (Kd.C_below HR0_1.out HB.out) | (with_reducible first | apply cA | apply cN | apply cD))); (case side4 => exact HC0_1.out); rintro e w37 ⟨rfl, hb⟩; refine ⟨_, rfl, ?_⟩; replace BK696 := Aside0.mk (blk_below (o := .cells #[.slice A0_0 l0_0.length c0_0, .slice A0_1 l0_1.length c0_1] 25 (0, 0)) (by with_reducible repeat first | exact BK696.out | apply kN | apply kD | apply kA) hb); replace BK697 := Aside0.mk (blk_below (o := .cells #[.slice none 0 0, .slice none 0 0] 25 (0, 0)) (by with_reducible repeat first | exact BK697.out | apply kN | apply kD | apply kA) hb); replace HB := Aside0.mk (below_step (by repeat with_reducible first | exact HB.out | apply bA | apply bN | apply bD | refine bS ?_ GE696.out | refine bS ?_ GE697.out) hb); (try clear hb); (try clear hb2); (try clear hk); (try clear hi); obtain ⟨hcz38_0, hcz38_1, hfz38_0, hfz38_1⟩ := kc2 BK697.out))
  refine bodyPost_ret (results_ct rfl _ _ gb697 25 #[.slice none 0 0, .slice none 0 0] (0, 0) _ rfl (by (with_reducible repeat first | apply kN | apply kD | apply kA); refine blk_put (cs := #[.slice none 0 0, .slice none 0 0]) ?_ 1 _ rfl; (with_reducible repeat first | apply kN | apply kD | apply kA); refine blk_put (cs := #[.slice none 0 0, .slice none 0 0]) ?_ 0 _ rfl; (with_reducible repeat first | apply kN | apply kD | apply kA); exact BK697.out) Try.underlying25 rfl (by kernel_rfl)) rfl ?_
  exact ⟨_, _, by first | rfl | (simp [errW_none, errW_some] <;> rfl) | (simp [*, errW_none, errW_some] <;> rfl), by first | exact Kd.R_nil _ _ _ _ _ | exact Kd.N_nil _ _ _ _ _ | exact Kd.V_nil _ _ _ _ _ | exact Kd.Q_nil _ _ _ _ _ | exact Kd.S_nil _ _ _ _ _, by first | exact Kd.R_nil _ _ _ _ _ | exact Kd.N_nil _ _ _ _ _ | exact Kd.V_nil _ _ _ _ _ | exact Kd.Q_nil _ _ _ _ _ | exact Kd.S_nil _ _ _ _ _, by repeat with_reducible first | exact HB.out | apply bA | apply bN | apply bD | refine bS ?_ GE696.out | refine bS ?_ GE697.out⟩

end Go.Proofs.Ytmdmajfgpmopbaa.X
