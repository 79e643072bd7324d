import Derived.Test.YteflngoiebgdaaaX0
import Derived.Test.YteflngoiebgdaaaX8
import Derived.Test.YteflngoiebgdaaaX74
import Derived.Test.YteflngoiebgdaaaX75
import Derived.Test.YteflngoiebgdaaaX76
import Derived.Test.YteflngoiebgdaaaX77
namespace Go.Proofs.Yteflngoiebgdaaa.X
open Go.RowKit YteflngoiebgdaaaW.PrintWords YteflngoiebgdaaaW.PrintLast YteflngoiebgdaaaW.PrintMore
attribute [local go_sem] max2_int min2_int max_two min_two max_three min_three max_four min_four
set_option linter.unusedVariables false
set_option linter.unusedSimpArgs false

/-! ### movement_Reverse: function 25 -/
def movement_Reverse.f (k : Nat) (l0_0 : List (S54)) (l0_1 : List Int) : Option ((List (S54)) × List Int × Int) := (movement_Check.f k l0_0 l0_1).bind fun t769 => (if t769 = 0 then ((api_Pose_43.f l0_0).bind fun t770 => ((slices_Clone_int_int.f l0_1).bind fun t773 => ((api_Pose_45.f k t770).bind fun t777 => ((slices_Reverse_int_int.f k t773).bind fun t778 => (some (t777, t778, 0)))))) else (some (([] : List (S54)), ([] : List Int), t769)))
theorem movement_Reverse.mono : ∀ a0 a1 k, LeO (movement_Reverse.f k a0 a1) (movement_Reverse.f (k + 1) a0 a1) := by
 intro a0 a1 k
 unfold movement_Reverse.f
 repeat' first
   | (with_reducible exact api_Pose_45.mono _ _)
   | (with_reducible exact movement_Check.mono _ _ _)
   | (with_reducible exact slices_Reverse_int_int.mono _ _)
   | (with_reducible exact LeO.refl _)
   | (with_reducible exact LeO.none _)
   | (with_reducible refine LeO.ite ?_ ?_)
   | (with_reducible refine LeO.bind ?_ (fun _ => ?_))
   | exact api_Pose_45.mono _ _
   | exact movement_Check.mono _ _ _
   | exact slices_Reverse_int_int.mono _ _
   | exact LeO.none _
   | refine LeO.ite ?_ ?_
   | refine LeO.bind ?_ (fun _ => ?_)
def movement_Reverse.T4 : Bool × List (List Nat × List Nat) := (true, [([], []), ([0], [0]), ([1], [1]), ([], []), ([3], [3]), ([4, 2], [4]), ([2, 5], [2, 5]), ([], []), ([7, 6, 5, 0, 1, 2, 3, 4, 5, 6, 7], [6, 7])])
def movement_Reverse.B4 : List Nat := [0, 1, 3, 0, 8, 31, 63, 0, 255]
theorem movement_Reverse.tab4 : rtab .any (opsOf Try.f25 4) = movement_Reverse.T4 := by kernel_rfl
theorem movement_Reverse.bits4 : waitsOk movement_Reverse.T4.2 movement_Reverse.B4 = true := by kernel_rfl
set_option maxHeartbeats 8000000 in
set_option maxRecDepth 100000 in
theorem movement_Reverse.calls (k : Nat) (A0_0 : Option Addr) (c0_0 : Nat) (l0_0 : List (S54)) (A0_1 : Option Addr) (c0_1 : Nat) (l0_1 : List Int) (r1 : List (S54)) (r2 : List Int) (r3 : Int) (w : World) (hr0_0 : Kd.C k54 w A0_0 l0_0.length l0_0) (hc0_0 : l0_0.length ≤ c0_0) (hr0_1 : Kd.C (Kd.int .i64) w A0_1 l0_1.length l0_1) (hc0_1 : l0_1.length ≤ c0_1) (h : movement_Reverse.f k l0_0 l0_1 = some (r1, r2, r3)) :
  Calls Try.prog 25 #[.agg #[.slice A0_0 l0_0.length c0_0, .slice A0_1 l0_1.length c0_1]] w fun e w' => ∃ v0_ v1_ : Value, e = .returned (.tuple #[.agg #[v0_, v1_], .int .i64 r3]) ∧ Kd.R k54 54 w' w.heap.size (fun _ => True) v0_ r1 ∧ Kd.R (Kd.int .i64) 3 w' w.heap.size (fun _ => True) v1_ r2 ∧ Below w.heap.size w w' := by
 have hu43 := Try.underlying43
 have HR0_0 := am hr0_0
 have HC0_0 := am hc0_0
 clear hr0_0 hc0_0
 have HR0_1 := am hr0_1
 have HC0_1 := am hc0_1
 clear hr0_1 hc0_1
 have HB := am (Below.refl w.heap.size w)
 have H : ((movement_Check.f k l0_0 l0_1).bind fun t769 => (if t769 = 0 then ((api_Pose_43.f l0_0).bind fun t770 => ((slices_Clone_int_int.f l0_1).bind fun t773 => ((api_Pose_45.f k t770).bind fun t777 => ((slices_Reverse_int_int.f k t773).bind fun t778 => (some (t777, t778, 0)))))) else (some (([] : List (S54)), ([] : List Int), t769)))) = some (r1, r2, r3) := h
 clear h
 replace H := Option.bind_eq_some_iff.mp H
 obtain ⟨t769, A20, H⟩ := H
 replace H : (if t769 = 0 then ((api_Pose_43.f l0_0).bind fun t770 => ((slices_Clone_int_int.f l0_1).bind fun t773 => ((api_Pose_45.f k t770).bind fun t777 => ((slices_Reverse_int_int.f k t773).bind fun t778 => (some (t777, t778, 0)))))) else (some (([] : List (S54)), ([] : List Int), t769))) = some (r1, r2, r3) := H
 have A2 := am A20
 clear A20
 by_cases c3 : t769 = 0
 ·
  rw [if_pos c3] at H
  have c3b0 : (t769 == 0) = true := beq_iff_eq.mpr c3
  have c3b1 : (t769 != 0) = false := bne_eq_false_iff_eq.mpr c3
  clear c3
  replace H := Option.bind_eq_some_iff.mp H
  obtain ⟨t770, A40, H⟩ := H
  replace H : ((slices_Clone_int_int.f l0_1).bind fun t773 => ((api_Pose_45.f k t770).bind fun t777 => ((slices_Reverse_int_int.f k t773).bind fun t778 => (some (t777, t778, 0))))) = some (r1, r2, r3) := H
  have A4 := am A40
  clear A40
  replace H := Option.bind_eq_some_iff.mp H
  obtain ⟨t773, A50, H⟩ := H
  replace H : ((api_Pose_45.f k t770).bind fun t777 => ((slices_Reverse_int_int.f k t773).bind fun t778 => (some (t777, t778, 0)))) = some (r1, r2, r3) := H
  have A5 := am A50
  clear A50
  replace H := Option.bind_eq_some_iff.mp H
  obtain ⟨t777, A60, H⟩ := H
  replace H : ((slices_Reverse_int_int.f k t773).bind fun t778 => (some (t777, t778, 0))) = some (r1, r2, r3) := H
  have A6 := am A60
  clear A60
  replace H := Option.bind_eq_some_iff.mp H
  obtain ⟨t778, A70, H⟩ := H
  replace H : (some (t777, t778, 0)) = some (r1, r2, r3) := H
  have A7 := am A70
  clear A70
  simp only [Option.some.injEq, Prod.mk.injEq] at H
  obtain ⟨rfl, rfl, rfl⟩ := H
  go_enter Try.func25, Try.ntmps25
  try go_wp2_with (first | ((with_reducible refine gate_dst (N := 1) rfl ?_); refine box_event yz (N := 1) yz (cs := #[.slice A0_0 l0_0.length c0_0, .slice A0_1 l0_1.length c0_1]) (t := 43) gz ?_; intro gb767 hg w8 hbox hb; have BK767 := am (hbox); have GW767 := gwz (g := gb767) HB hg; have GE767 := GW767; replace HB := am (below_step bz hb); clear hb hbox hg) | ((with_reducible refine gate_dst (N := 2) rfl ?_); refine box_event yz (N := 2) yz (cs := #[.slice none 0 0, .slice none 0 0]) (t := 43) gz ?_; intro gb768 hg w9 hbox hb; have BK768 := am (hbox); have GW768 := gwz (g := gb768) HB hg; have GE768 := GW768; replace HB := am (below_step bz hb); have NB767_768 := nlt (g' := gb768) BK767 hg; have NB768_767 := ngt (g' := gb768) BK767 hg; replace BK767 := am (blk_below (o := .cells #[.slice A0_0 l0_0.length c0_0, .slice A0_1 l0_1.length c0_1] 43 (0, 0)) (kz BK767) hb); clear hb hbox hg; have hnb10 := NB767_768.out; have hnc10 := NB768_767.out; obtain ⟨hcz11_0, hcz11_1, hfz11_0, hfz11_1⟩ := kc2 BK767.out) | ((with_reducible refine gate_callee (f := 29) rfl ?_); refine goesL_ (some 7) rfl rfl Try.func29 qz rfl #[.agg #[.slice A0_0 l0_0.length c0_0, .slice A0_1 l0_1.length c0_1]] rfl mz ?_; (with_reducible refine (movement_Check.calls k _ _ l0_0 _ _ l0_1 t769 _ ?side1 ?side2 ?side3 ?side4 A2.out).mono ?_); (case side1 => exact cz HR0_0); (case side2 => exact HC0_0.out); (case side3 => exact cz HR0_1); (case side4 => exact HC0_1.out); rintro e w12 ⟨rfl, hb⟩; refine ⟨_, rfl, ?_⟩; replace BK767 := am (blk_below (o := .cells #[.slice A0_0 l0_0.length c0_0, .slice A0_1 l0_1.length c0_1] 43 (0, 0)) (kz BK767) hb); replace BK768 := am (blk_below (o := .cells #[.slice none 0 0, .slice none 0 0] 43 (0, 0)) (kz BK768) hb); replace HB := am (below_step bz hb); (try clear hb); (try clear hb2); (try clear hk); (try clear hi)))
  have n0_ := am (blk_drew BK767.out)
  have n1_ := am (blk_drew BK768.out)
  have n2_ := am (below_drew1 HB.out)
  clear BK767
  clear BK768
  clear HB
  have BK767 := n0_
  have BK768 := n1_
  have HB := n2_
  clear n0_ n1_ n2_
  refine start_ (n := 9) (S := fun w' => w'.cell? ⟨gb767, 0, none⟩ = some (.slice A0_0 l0_0.length c0_0) ∧ w'.cell? ⟨gb767, 1, none⟩ = some (.slice A0_1 l0_1.length c0_1)) (ds := []) (bm 9 0) qz rfl rfl ⟨(blk_cell BK767.out 0).trans rfl, (blk_cell BK767.out 1).trans rfl⟩ (fun hHeld => ?_); refine with_tabW movement_Reverse.tab4 movement_Reverse.bits4 (fun HT_ HW_ => ?_)
  generalize w12.drew = w13 at BK767 BK768 HB hHeld ⊢
  refine pa (i := 0) (N := some 12) (bm 9 1) HT_ ?_
  refine pa (i := 3) (N := some 15) (bm 9 9) HT_ ?_
  refine take_ (i := 1) (N := some 13) (v := ?_) (a' := ?_) (bm 9 11) rfl rfl (take_ofW HT_.out HW_.out qz) iz (Or.inl ⟨by rfl, ?_⟩) hHeld ?_ ?_
  rotate_left
  ·
   rintro w' ⟨s0, s1⟩
   go_simp
   with_reducible rfl
  rotate_left
  ·
   simp only [Act.put, aS, lZ, lS, i64_w, i32_w]
   rfl
  refine take_ (i := 4) (N := some 16) (v := ?_) (a' := ?_) (bm 9 27) rfl rfl (take_ofW HT_.out HW_.out qz) iz (Or.inl ⟨by rfl, ?_⟩) hHeld ?_ ?_
  rotate_left
  ·
   rintro w' ⟨s0, s1⟩
   go_simp
   with_reducible rfl
  rotate_left
  ·
   simp only [Act.put, aS, lZ, lS, i64_w, i32_w]
   rfl
  refine join_ (σ := Value × Value × Nat) 1 (bm 9 255) (fun s_ => [(14, s_.1), (17, s_.2.1), (5, .pointer (some ⟨s_.2.2, 0, none⟩)), (18, .agg #[s_.1, s_.2.1])]) (fun s_ w' => (w'.cell? ⟨gb767, 0, none⟩ = some (.slice A0_0 l0_0.length c0_0) ∧ w'.cell? ⟨gb767, 1, none⟩ = some (.slice A0_1 l0_1.length c0_1)) ∧ (Kd.R k54 54 w' w.heap.size (fun _ => True) s_.1 t770) ∧ (Kd.R (Kd.int .i64) 3 w' w.heap.size (fun _ => True) s_.2.1 t773) ∧ (w'.heap[gb767]? = some (.cells #[.slice A0_0 l0_0.length c0_0, .slice A0_1 l0_1.length c0_1] 43 (0, 0))) ∧ (w'.heap[gb768]? = some (.cells #[.slice none 0 0, .slice none 0 0] 43 (0, 0))) ∧ (w'.heap[s_.2.2]? = some (.cells #[.slice none 0 0, .slice none 0 0] 43 (0, 0))) ∧ (w.heap.size ≤ s_.2.2) ∧ (w.heap.size ≤ s_.2.2) ∧ (gb767 ≠ s_.2.2) ∧ (s_.2.2 ≠ gb767) ∧ (gb768 ≠ s_.2.2) ∧ (s_.2.2 ≠ gb768) ∧ (Below w.heap.size w w')) ?_ ?_
  rotate_left
  ·
   intro hCont
   refine two_ (i := 2) (j := 7) (Ni := some 14) (Nj := some 5) (bm 9 31) (bm 9 155) rfl rfl rfl rfl (two_of HT_.out qz) (by decide) (by decide) (fun K hK => ?_) (fun K hK => ?_)
   ·
    skip
    refine goes_ Try.func43 qz rfl #[.slice A0_0 l0_0.length c0_0] (by rfl) rfl rfl mz ?_
    with_reducible refine (api_Pose_43.calls _ _ l0_0 t770 _ ?side1 ?side2 A4.out).mono ?_
    (case side1 => exact cz HR0_0)
    (case side2 => exact HC0_0.out)
    rintro e w14 ⟨v771, rfl, ho0, hb⟩
    refine ⟨_, rfl, ?_⟩
    have n0_ := am (Kd.R_lower ho0 (below_size bz))
    have n1_ := am (blk_below (o := .cells #[.slice A0_0 l0_0.length c0_0, .slice A0_1 l0_1.length c0_1] 43 (0, 0)) (kz BK767) hb)
    have n2_ := am (blk_below (o := .cells #[.slice none 0 0, .slice none 0 0] 43 (0, 0)) (kz BK768) hb)
    have n3_ := am (below_step bz hb)
    clear BK767
    clear BK768
    clear HB
    have HO772 := n0_
    have BK767 := n1_
    have BK768 := n2_
    have HB := n3_
    clear n0_ n1_ n2_ n3_
    (try clear hb)
    (try clear hb2)
    (try clear hk)
    (try clear hi)
    (try clear ho0)
    refine hK.out _ _ ⟨(blk_cell BK767.out 0).trans rfl, (blk_cell BK767.out 1).trans rfl⟩ (fun hHeld => ?_)
    clear hK K
    refine norm_ (a' := ?_) ?_ ?_
    rotate_left
    ·
     show Act.put _ (some 14) _ = _
     simp only [Act.put, aS, lZ, lS, i64_w, i32_w]
     rfl
    refine two_ (i := 5) (j := 7) (Ni := some 17) (Nj := some 5) (bm 9 63) (bm 9 159) rfl rfl rfl rfl (two_of HT_.out qz) (by decide) (by decide) (fun K hK => ?_) (fun K hK => ?_)
    ·
     skip
     refine goes_ Try.func44 qz rfl #[.slice A0_1 l0_1.length c0_1] (by rfl) rfl rfl mz ?_
     with_reducible refine (slices_Clone_int_int.calls _ _ l0_1 t773 _ ?side1 ?side2 A5.out).mono ?_
     (case side1 => exact cz HR0_1)
     (case side2 => exact HC0_1.out)
     rintro e w15 ⟨v774, rfl, ho0, hb⟩
     refine ⟨_, rfl, ?_⟩
     have n0_ := am (Kd.R_below (rz HO772) hb)
     have n1_ := am (Kd.R_lower ho0 (below_size bz))
     have n2_ := am (blk_below (o := .cells #[.slice A0_0 l0_0.length c0_0, .slice A0_1 l0_1.length c0_1] 43 (0, 0)) (kz BK767) hb)
     have n3_ := am (blk_below (o := .cells #[.slice none 0 0, .slice none 0 0] 43 (0, 0)) (kz BK768) hb)
     have n4_ := am (below_step bz hb)
     clear HO772
     clear BK767
     clear BK768
     clear HB
     have HO772 := n0_
     have HO775 := n1_
     have BK767 := n2_
     have BK768 := n3_
     have HB := n4_
     clear n0_ n1_ n2_ n3_ n4_
     (try clear hb)
     (try clear hb2)
     (try clear hk)
     (try clear hi)
     (try clear ho0)
     obtain ⟨Ao16, co16, eo16⟩ := Kd.R_slice HO775.out
     (first | subst eo16 | (injection eo16 with f1_ f2_ f3_; have f4_ := f1_.symm; have f5_ := f3_.symm; clear f1_ f2_ f3_; subst f4_; subst f5_))
     obtain ⟨Ao17, co17, eo17⟩ := Kd.R_slice HO772.out
     (first | subst eo17 | (injection eo17 with f1_ f2_ f3_; have f4_ := f1_.symm; have f5_ := f3_.symm; clear f1_ f2_ f3_; subst f4_; subst f5_))
     refine hK.out _ _ ⟨(blk_cell BK767.out 0).trans rfl, (blk_cell BK767.out 1).trans rfl⟩ (fun hHeld => ?_)
     clear hK K
     refine norm_ (a' := ?_) ?_ ?_
     rotate_left
     ·
      show Act.put _ (some 17) _ = _
      simp only [Act.put, aS, lZ, lS, i64_w, i32_w]
      rfl
     refine pa (i := 6) (N := some 18) (bm 9 127) HT_ ?_
     refine one_ (i := 7) (N := some 5) (bm 9 255) rfl rfl (one_of HT_.out qz) (by decide) (fun K hK => ?_)
     refine box_step ?hg (N := 5) ?hd (cs := #[.slice none 0 0, .slice none 0 0]) (t := 43) ?hr ?_; (case hd => rfl); (case hg => rfl); (case hr => first | (go_simp; done) | (go_simp; rfl))
     intro gb776 hg w18 hbox hb
     have n0_ := am (Kd.R_below (rz HO772) hb)
     have n1_ := am (Kd.R_below (rz HO775) hb)
     have n2_ := am (blk_below (o := .cells #[.slice A0_0 l0_0.length c0_0, .slice A0_1 l0_1.length c0_1] 43 (0, 0)) (kz BK767) hb)
     have n3_ := am (blk_below (o := .cells #[.slice none 0 0, .slice none 0 0] 43 (0, 0)) (kz BK768) hb)
     have n4_ := am (below_step bz hb)
     have n5_ := am (hbox)
     have n6_ := gwz (g := gb776) HB hg
     have n7_ := gwz (g := gb776) HB hg
     have n8_ := nlt (g' := gb776) BK767 hg
     have n9_ := ngt (g' := gb776) BK767 hg
     have n10_ := nlt (g' := gb776) BK768 hg
     have n11_ := ngt (g' := gb776) BK768 hg
     clear HO772
     clear HO775
     clear BK767
     clear BK768
     clear HB
     have HO772 := n0_
     have HO775 := n1_
     have BK767 := n2_
     have BK768 := n3_
     have HB := n4_
     have BK776 := n5_
     have GW776 := n6_
     have GE776 := n7_
     have NB767_776 := n8_
     have NB776_767 := n9_
     have NB768_776 := n10_
     have NB776_768 := n11_
     clear n0_ n1_ n2_ n3_ n4_ n5_ n6_ n7_ n8_ n9_ n10_ n11_
     clear hb hbox hg
     refine hK.out _ _ ⟨(blk_cell BK767.out 0).trans rfl, (blk_cell BK767.out 1).trans rfl⟩ (fun hHeld => ?_)
     clear hK K
     refine norm_ (a' := ?_) ?_ ?_
     rotate_left
     ·
      show Act.put _ (some 5) _ = _
      simp only [Act.put, aS, lZ, lS, i64_w, i32_w]
      rfl
     exact norm_ (by simp only [putAll, Act.put, List.setIfInBounds_toArray, List.set_cons_zero, List.set_cons_succ]) (hCont (.slice Ao17 t770.length co17, .slice Ao16 t773.length co16, gb776) _ ⟨hHeld, (rz HO772), (rz HO775), (kz BK767), (kz BK768), (kz BK776), GW776.out, GE776.out, NB767_776.out, NB776_767.out, NB768_776.out, NB776_768.out, bz⟩)
    ·
     skip
     refine box_step ?hg (N := 5) ?hd (cs := #[.slice none 0 0, .slice none 0 0]) (t := 43) ?hr ?_; (case hd => rfl); (case hg => rfl); (case hr => first | (go_simp; done) | (go_simp; rfl))
     intro gb776 hg w15 hbox hb
     have n0_ := am (Kd.R_below (rz HO772) hb)
     have n1_ := am (blk_below (o := .cells #[.slice A0_0 l0_0.length c0_0, .slice A0_1 l0_1.length c0_1] 43 (0, 0)) (kz BK767) hb)
     have n2_ := am (blk_below (o := .cells #[.slice none 0 0, .slice none 0 0] 43 (0, 0)) (kz BK768) hb)
     have n3_ := am (below_step bz hb)
     have n4_ := am (hbox)
     have n5_ := gwz (g := gb776) HB hg
     have n6_ := gwz (g := gb776) HB hg
     have n7_ := nlt (g' := gb776) BK767 hg
     have n8_ := ngt (g' := gb776) BK767 hg
     have n9_ := nlt (g' := gb776) BK768 hg
     have n10_ := ngt (g' := gb776) BK768 hg
     clear HO772
     clear BK767
     clear BK768
     clear HB
     have HO772 := n0_
     have BK767 := n1_
     have BK768 := n2_
     have HB := n3_
     have BK776 := n4_
     have GW776 := n5_
     have GE776 := n6_
     have NB767_776 := n7_
     have NB776_767 := n8_
     have NB768_776 := n9_
     have NB776_768 := n10_
     clear n0_ n1_ n2_ n3_ n4_ n5_ n6_ n7_ n8_ n9_ n10_
     clear hb hbox hg
     refine hK.out _ _ ⟨(blk_cell BK767.out 0).trans rfl, (blk_cell BK767.out 1).trans rfl⟩ (fun hHeld => ?_)
     clear hK K
     refine norm_ (a' := ?_) ?_ ?_
     rotate_left
     ·
      show Act.put _ (some 5) _ = _
      simp only [Act.put, aS, lZ, lS, i64_w, i32_w]
      rfl
     refine one_ (i := 5) (N := some 17) (bm 9 191) rfl rfl (one_of HT_.out qz) (by decide) (fun K hK => ?_)
     refine goes_ Try.func44 qz rfl #[.slice A0_1 l0_1.length c0_1] (by rfl) rfl rfl mz ?_
     with_reducible refine (slices_Clone_int_int.calls _ _ l0_1 t773 _ ?side1 ?side2 A5.out).mono ?_
     (case side1 => exact cz HR0_1)
     (case side2 => exact HC0_1.out)
     rintro e w16 ⟨v774, rfl, ho0, hb⟩
     refine ⟨_, rfl, ?_⟩
     have n0_ := am (Kd.R_below (rz HO772) hb)
     have n1_ := am (Kd.R_lower ho0 (below_size bz))
     have n2_ := am (blk_below (o := .cells #[.slice A0_0 l0_0.length c0_0, .slice A0_1 l0_1.length c0_1] 43 (0, 0)) (kz BK767) hb)
     have n3_ := am (blk_below (o := .cells #[.slice none 0 0, .slice none 0 0] 43 (0, 0)) (kz BK768) hb)
     have n4_ := am (blk_below (o := .cells #[.slice none 0 0, .slice none 0 0] 43 (0, 0)) (kz BK776) hb)
     have n5_ := am (below_step bz hb)
     clear HO772
     clear BK767
     clear BK768
     clear BK776
     clear HB
     have HO772 := n0_
     have HO775 := n1_
     have BK767 := n2_
     have BK768 := n3_
     have BK776 := n4_
     have HB := n5_
     clear n0_ n1_ n2_ n3_ n4_ n5_
     (try clear hb)
     (try clear hb2)
     (try clear hk)
     (try clear hi)
     (try clear ho0)
     obtain ⟨Ao17, co17, eo17⟩ := Kd.R_slice HO775.out
     (first | subst eo17 | (injection eo17 with f1_ f2_ f3_; have f4_ := f1_.symm; have f5_ := f3_.symm; clear f1_ f2_ f3_; subst f4_; subst f5_))
     obtain ⟨Ao18, co18, eo18⟩ := Kd.R_slice HO772.out
     (first | subst eo18 | (injection eo18 with f1_ f2_ f3_; have f4_ := f1_.symm; have f5_ := f3_.symm; clear f1_ f2_ f3_; subst f4_; subst f5_))
     refine hK.out _ _ ⟨(blk_cell BK767.out 0).trans rfl, (blk_cell BK767.out 1).trans rfl⟩ (fun hHeld => ?_)
     clear hK K
     refine norm_ (a' := ?_) ?_ ?_
     rotate_left
     ·
      show Act.put _ (some 17) _ = _
      simp only [Act.put, aS, lZ, lS, i64_w, i32_w]
      rfl
     refine pa (i := 6) (N := some 18) (bm 9 255) HT_ ?_
     exact norm_ (by simp only [putAll, Act.put, List.setIfInBounds_toArray, List.set_cons_zero, List.set_cons_succ]) (hCont (.slice Ao18 t770.length co18, .slice Ao17 t773.length co17, gb776) _ ⟨hHeld, (rz HO772), (rz HO775), (kz BK767), (kz BK768), (kz BK776), GW776.out, GE776.out, NB767_776.out, NB776_767.out, NB768_776.out, NB776_768.out, bz⟩)
   ·
    skip
    refine box_step ?hg (N := 5) ?hd (cs := #[.slice none 0 0, .slice none 0 0]) (t := 43) ?hr ?_; (case hd => rfl); (case hg => rfl); (case hr => first | (go_simp; done) | (go_simp; rfl))
    intro gb776 hg w14 hbox hb
    have n0_ := am (blk_below (o := .cells #[.slice A0_0 l0_0.length c0_0, .slice A0_1 l0_1.length c0_1] 43 (0, 0)) (kz BK767) hb)
    have n1_ := am (blk_below (o := .cells #[.slice none 0 0, .slice none 0 0] 43 (0, 0)) (kz BK768) hb)
    have n2_ := am (below_step bz hb)
    have n3_ := am (hbox)
    have n4_ := gwz (g := gb776) HB hg
    have n5_ := gwz (g := gb776) HB hg
    have n6_ := nlt (g' := gb776) BK767 hg
    have n7_ := ngt (g' := gb776) BK767 hg
    have n8_ := nlt (g' := gb776) BK768 hg
    have n9_ := ngt (g' := gb776) BK768 hg
    clear BK767
    clear BK768
    clear HB
    have BK767 := n0_
    have BK768 := n1_
    have HB := n2_
    have BK776 := n3_
    have GW776 := n4_
    have GE776 := n5_
    have NB767_776 := n6_
    have NB776_767 := n7_
    have NB768_776 := n8_
    have NB776_768 := n9_
    clear n0_ n1_ n2_ n3_ n4_ n5_ n6_ n7_ n8_ n9_
    clear hb hbox hg
    refine hK.out _ _ ⟨(blk_cell BK767.out 0).trans rfl, (blk_cell BK767.out 1).trans rfl⟩ (fun hHeld => ?_)
    clear hK K
    refine norm_ (a' := ?_) ?_ ?_
    rotate_left
    ·
     show Act.put _ (some 5) _ = _
     simp only [Act.put, aS, lZ, lS, i64_w, i32_w]
     rfl
    refine one_ (i := 2) (N := some 14) (bm 9 159) rfl rfl (one_of HT_.out qz) (by decide) (fun K hK => ?_)
    refine goes_ Try.func43 qz rfl #[.slice A0_0 l0_0.length c0_0] (by rfl) rfl rfl mz ?_
    with_reducible refine (api_Pose_43.calls _ _ l0_0 t770 _ ?side1 ?side2 A4.out).mono ?_
    (case side1 => exact cz HR0_0)
    (case side2 => exact HC0_0.out)
    rintro e w15 ⟨v771, rfl, ho0, hb⟩
    refine ⟨_, rfl, ?_⟩
    have n0_ := am (Kd.R_lower ho0 (below_size bz))
    have n1_ := am (blk_below (o := .cells #[.slice A0_0 l0_0.length c0_0, .slice A0_1 l0_1.length c0_1] 43 (0, 0)) (kz BK767) hb)
    have n2_ := am (blk_below (o := .cells #[.slice none 0 0, .slice none 0 0] 43 (0, 0)) (kz BK768) hb)
    have n3_ := am (blk_below (o := .cells #[.slice none 0 0, .slice none 0 0] 43 (0, 0)) (kz BK776) hb)
    have n4_ := am (below_step bz hb)
    clear BK767
    clear BK768
    clear BK776
    clear HB
    have HO772 := n0_
    have BK767 := n1_
    have BK768 := n2_
    have BK776 := n3_
    have HB := n4_
    clear n0_ n1_ n2_ n3_ n4_
    (try clear hb)
    (try clear hb2)
    (try clear hk)
    (try clear hi)
    (try clear ho0)
    refine hK.out _ _ ⟨(blk_cell BK767.out 0).trans rfl, (blk_cell BK767.out 1).trans rfl⟩ (fun hHeld => ?_)
    clear hK K
    refine norm_ (a' := ?_) ?_ ?_
    rotate_left
    ·
     show Act.put _ (some 14) _ = _
     simp only [Act.put, aS, lZ, lS, i64_w, i32_w]
     rfl
    refine one_ (i := 5) (N := some 17) (bm 9 191) rfl rfl (one_of HT_.out qz) (by decide) (fun K hK => ?_)
    refine goes_ Try.func44 qz rfl #[.slice A0_1 l0_1.length c0_1] (by rfl) rfl rfl mz ?_
    with_reducible refine (slices_Clone_int_int.calls _ _ l0_1 t773 _ ?side1 ?side2 A5.out).mono ?_
    (case side1 => exact cz HR0_1)
    (case side2 => exact HC0_1.out)
    rintro e w16 ⟨v774, rfl, ho0, hb⟩
    refine ⟨_, rfl, ?_⟩
    have n0_ := am (Kd.R_below (rz HO772) hb)
    have n1_ := am (Kd.R_lower ho0 (below_size bz))
    have n2_ := am (blk_below (o := .cells #[.slice A0_0 l0_0.length c0_0, .slice A0_1 l0_1.length c0_1] 43 (0, 0)) (kz BK767) hb)
    have n3_ := am (blk_below (o := .cells #[.slice none 0 0, .slice none 0 0] 43 (0, 0)) (kz BK768) hb)
    have n4_ := am (blk_below (o := .cells #[.slice none 0 0, .slice none 0 0] 43 (0, 0)) (kz BK776) hb)
    have n5_ := am (below_step bz hb)
    clear HO772
    clear BK767
    clear BK768
    clear BK776
    clear HB
    have HO772 := n0_
    have HO775 := n1_
    have BK767 := n2_
    have BK768 := n3_
    have BK776 := n4_
    have HB := n5_
    clear n0_ n1_ n2_ n3_ n4_ n5_
    (try clear hb)
    (try clear hb2)
    (try clear hk)
    (try clear hi)
    (try clear ho0)
    obtain ⟨Ao17, co17, eo17⟩ := Kd.R_slice HO775.out
    (first | subst eo17 | (injection eo17 with f1_ f2_ f3_; have f4_ := f1_.symm; have f5_ := f3_.symm; clear f1_ f2_ f3_; subst f4_; subst f5_))
    obtain ⟨Ao18, co18, eo18⟩ := Kd.R_slice HO772.out
    (first | subst eo18 | (injection eo18 with f1_ f2_ f3_; have f4_ := f1_.symm; have f5_ := f3_.symm; clear f1_ f2_ f3_; subst f4_; subst f5_))
    refine hK.out _ _ ⟨(blk_cell BK767.out 0).trans rfl, (blk_cell BK767.out 1).trans rfl⟩ (fun hHeld => ?_)
    clear hK K
    refine norm_ (a' := ?_) ?_ ?_
    rotate_left
    ·
     show Act.put _ (some 17) _ = _
     simp only [Act.put, aS, lZ, lS, i64_w, i32_w]
     rfl
    refine pa (i := 6) (N := some 18) (bm 9 255) HT_ ?_
    exact norm_ (by simp only [putAll, Act.put, List.setIfInBounds_toArray, List.set_cons_zero, List.set_cons_succ]) (hCont (.slice Ao18 t770.length co18, .slice Ao17 t773.length co17, gb776) _ ⟨hHeld, (rz HO772), (rz HO775), (kz BK767), (kz BK768), (kz BK776), GW776.out, GE776.out, NB767_776.out, NB776_767.out, NB768_776.out, NB776_768.out, bz⟩)
  rintro ⟨v771, v774, gb776⟩ w19 ⟨hS_, h0_, h1_, h2_, h3_, h4_, h5_, h6_, h7_, h8_, h9_, h10_, h11_⟩
  have n0_ : Aside0 (Kd.R k54 54 w19 w.heap.size (fun _ => True) v771 t770) := ⟨h0_⟩
  have n1_ : Aside0 (Kd.R (Kd.int .i64) 3 w19 w.heap.size (fun _ => True) v774 t773) := ⟨h1_⟩
  have n2_ : Aside0 (w19.heap[gb767]? = some (.cells #[.slice A0_0 l0_0.length c0_0, .slice A0_1 l0_1.length c0_1] 43 (0, 0))) := ⟨h2_⟩
  have n3_ : Aside0 (w19.heap[gb768]? = some (.cells #[.slice none 0 0, .slice none 0 0] 43 (0, 0))) := ⟨h3_⟩
  have n4_ : Aside0 (w19.heap[gb776]? = some (.cells #[.slice none 0 0, .slice none 0 0] 43 (0, 0))) := ⟨h4_⟩
  have n5_ : Aside0 (w.heap.size ≤ gb776) := ⟨h5_⟩
  have n6_ : Aside0 (w.heap.size ≤ gb776) := ⟨h6_⟩
  have n7_ : Aside0 (gb767 ≠ gb776) := ⟨h7_⟩
  have n8_ : Aside0 (gb776 ≠ gb767) := ⟨h8_⟩
  have n9_ : Aside0 (gb768 ≠ gb776) := ⟨h9_⟩
  have n10_ : Aside0 (gb776 ≠ gb768) := ⟨h10_⟩
  have n11_ : Aside0 (Below w.heap.size w w19) := ⟨h11_⟩
  clear BK767
  clear BK768
  clear HB
  clear h0_ h1_ h2_ h3_ h4_ h5_ h6_ h7_ h8_ h9_ h10_ h11_
  have HO772 := n0_
  have HO775 := n1_
  have BK767 := n2_
  have BK768 := n3_
  have BK776 := n4_
  have GW776 := n5_
  have GE776 := n6_
  have NB767_776 := n7_
  have NB776_767 := n8_
  have NB768_776 := n9_
  have NB776_768 := n10_
  have HB := n11_
  clear n0_ n1_ n2_ n3_ n4_ n5_ n6_ n7_ n8_ n9_ n10_ n11_
  have hHeld : w19.cell? ⟨gb767, 0, none⟩ = some (.slice A0_0 l0_0.length c0_0) ∧ w19.cell? ⟨gb767, 1, none⟩ = some (.slice A0_1 l0_1.length c0_1) := hS_
  obtain ⟨Ao20, co20, eo20⟩ := Kd.R_slice HO775.out
  (first | subst eo20 | (injection eo20 with f1_ f2_ f3_; have f4_ := f1_.symm; have f5_ := f3_.symm; clear f1_ f2_ f3_; subst f4_; subst f5_))
  obtain ⟨Ao21, co21, eo21⟩ := Kd.R_slice HO772.out
  (first | subst eo21 | (injection eo21 with f1_ f2_ f3_; have f4_ := f1_.symm; have f5_ := f3_.symm; clear f1_ f2_ f3_; subst f4_; subst f5_))
  refine norm_ (a' := ?_) ?_ ?_
  rotate_left
  ·
   simp only [putAll, Act.put, List.setIfInBounds_toArray, List.set_cons_zero, List.set_cons_succ]
   rfl
  refine one_ (i := 8) (N := none) (bm 9 511) rfl rfl (one_of HT_.out qz) (by decide) (fun K hK => ?_)
  have hs22 : w19.cell? ⟨gb776, 0, none⟩ = some (.slice none 0 0) := (blk_cell BK776.out 0).trans rfl
  have hfs22 := blk_frozen BK776.out 0
  have hns22_0 := NB767_776.out
  have hns22_1 := NB768_776.out
  have hms22_0 := NB776_767.out
  have hms22_1 := NB776_768.out
  have hs23 : w19.cell? ⟨gb776, 1, none⟩ = some (.slice none 0 0) := (blk_cell BK776.out 1).trans rfl
  have hfs23 := blk_frozen BK776.out 1
  have hns23_0 := NB767_776.out
  have hns23_1 := NB768_776.out
  have hms23_0 := NB776_767.out
  have hms23_1 := NB776_768.out
  refine skip_ (w1 := ?_) (by rfl) rfl ?_ ?_
  rotate_left
  ·
   go_simp
   rfl
  refine hK.out _ _ ⟨((cell_far (p := ⟨gb776, _, none⟩) NB767_776.out _).trans (((cell_far (p := ⟨gb776, _, none⟩) NB767_776.out _).trans (hHeld.1)))), ((cell_far (p := ⟨gb776, _, none⟩) NB767_776.out _).trans (((cell_far (p := ⟨gb776, _, none⟩) NB767_776.out _).trans (hHeld.2))))⟩ (fun hHeld => ?_)
  clear hK K
  refine done_ (done_of HT_.out qz) ?_
  have n0_ : Aside0 (Kd.R k54 54 ((w19.setCell ⟨gb776, 0, none⟩ (.slice Ao21 t770.length co21)).setCell ⟨gb776, 1, none⟩ (.slice Ao20 t773.length co20)) w.heap.size (fun _ => True) (.slice Ao21 t770.length co21) t770) := ⟨by (with_reducible repeat first | apply rA | apply rN | apply rD); exact Kd.R_mono (Kd.R_far (p := ⟨gb776, 1, none⟩) (Kd.R_far (p := ⟨gb776, 0, none⟩) (Kd.R_types HO772.out BK776.out (by decide)) (fun _ hk => hk.2) (.slice Ao21 t770.length co21)) (fun _ hk => hk.2) (.slice Ao20 t773.length co20)) (fun _ hk => trivial)⟩
  have n1_ : Aside0 (Kd.R (Kd.int .i64) 3 ((w19.setCell ⟨gb776, 0, none⟩ (.slice Ao21 t770.length co21)).setCell ⟨gb776, 1, none⟩ (.slice Ao20 t773.length co20)) w.heap.size (fun _ => True) (.slice Ao20 t773.length co20) t773) := ⟨by (with_reducible repeat first | apply rA | apply rN | apply rD); exact Kd.R_mono (Kd.R_far (p := ⟨gb776, 1, none⟩) (Kd.R_far (p := ⟨gb776, 0, none⟩) (Kd.R_types HO775.out BK776.out (by decide)) (fun _ hk => hk.2) (.slice Ao21 t770.length co21)) (fun _ hk => hk.2) (.slice Ao20 t773.length co20)) (fun _ hk => trivial)⟩
  have n2_ : Aside0 (((w19.setCell ⟨gb776, 0, none⟩ (.slice Ao21 t770.length co21)).setCell ⟨gb776, 1, none⟩ (.slice Ao20 t773.length co20)).heap[gb767]? = some (.cells #[.slice A0_0 l0_0.length c0_0, .slice A0_1 l0_1.length c0_1] 43 (0, 0))) := ⟨by (with_reducible repeat first | apply kN | apply kD | apply kA); refine blk_far ?_ NB767_776.out _; (with_reducible repeat first | apply kN | apply kD | apply kA); refine blk_far ?_ NB767_776.out _; (with_reducible repeat first | apply kN | apply kD | apply kA); exact BK767.out⟩
  have n3_ : Aside0 (((w19.setCell ⟨gb776, 0, none⟩ (.slice Ao21 t770.length co21)).setCell ⟨gb776, 1, none⟩ (.slice Ao20 t773.length co20)).heap[gb768]? = some (.cells #[.slice none 0 0, .slice none 0 0] 43 (0, 0))) := ⟨by (with_reducible repeat first | apply kN | apply kD | apply kA); refine blk_far ?_ NB768_776.out _; (with_reducible repeat first | apply kN | apply kD | apply kA); refine blk_far ?_ NB768_776.out _; (with_reducible repeat first | apply kN | apply kD | apply kA); exact BK768.out⟩
  have n4_ : Aside0 (((w19.setCell ⟨gb776, 0, none⟩ (.slice Ao21 t770.length co21)).setCell ⟨gb776, 1, none⟩ (.slice Ao20 t773.length co20)).heap[gb776]? = some (.cells #[.slice Ao21 t770.length co21, .slice Ao20 t773.length co20] 43 (0, 0))) := ⟨by (with_reducible repeat first | apply kN | apply kD | apply kA); refine blk_put (cs := #[.slice Ao21 t770.length co21, .slice none 0 0]) ?_ 1 _ rfl; (with_reducible repeat first | apply kN | apply kD | apply kA); refine blk_put (cs := #[.slice none 0 0, .slice none 0 0]) ?_ 0 _ rfl; (with_reducible repeat first | apply kN | apply kD | apply kA); exact BK776.out⟩
  have n5_ : Aside0 (Below w.heap.size w ((w19.setCell ⟨gb776, 0, none⟩ (.slice Ao21 t770.length co21)).setCell ⟨gb776, 1, none⟩ (.slice Ao20 t773.length co20))) := ⟨bz⟩
  (try clear HO772)
  (try clear HO775)
  (try clear BK767)
  (try clear BK768)
  (try clear BK776)
  (try clear HB)
  generalize ((w19.setCell ⟨gb776, 0, none⟩ (.slice Ao21 t770.length co21)).setCell ⟨gb776, 1, none⟩ (.slice Ao20 t773.length co20)) = w24 at n0_ n1_ n2_ n3_ n4_ n5_ ⊢
  have HO772 := n0_
  have HO775 := n1_
  have BK767 := n2_
  have BK768 := n3_
  have BK776 := n4_
  have HB := n5_
  clear n0_ n1_ n2_ n3_ n4_ n5_
  have hnb25 := NB776_767.out
  have hnc25 := NB767_776.out
  have hnb26 := NB776_768.out
  have hnc26 := NB768_776.out
  obtain ⟨hcz27_0, hcz27_1, hfz27_0, hfz27_1⟩ := kc2 BK776.out
  try go_wp2_with (first | ((with_reducible refine gate_callee (f := 45) rfl ?_); refine goesL_ (some 21) rfl rfl Try.func45 qz rfl #[.slice Ao21 t770.length co21] rfl mz ?_; (with_reducible refine (api_Pose_45.calls k (fun k_ => some k_ = (.slice Ao21 t770.length co21 : Value).ownBlock) (.slice Ao21 t770.length co21) t770 t777 w _ ?side1 ?side2 A6.out).mono ?_); (case side1 => repeat (first | (with_reducible first | exact HB.out | apply below_alloc | apply pw_below_drewN | apply below_drew1 | refine below_set ?_ GE767.out | refine below_set ?_ GE768.out | refine below_set ?_ GE776.out) | exact HB.out)); (case side2 => exact Kd.R_tight rfl HO772.out); rintro e w28 ⟨rfl, hy0, hb, hkp⟩; refine ⟨_, rfl, ?_⟩; replace BK767 := am (blk_kept (kz BK767) hkp (fun hs_ => (fun e_ => (Kd.R_ne HO772.out BK767.out (by decide)) e_) hs_)); replace BK768 := am (blk_kept (kz BK768) hkp (fun hs_ => (fun e_ => (Kd.R_ne HO772.out BK768.out (by decide)) e_) hs_)); replace HO775 := am (Kd.R_mono (ok' := fun k_ => True) (Kd.R_keptB ((Kd.R_apart' HO775.out (Kd.R_typed HO772.out) (by decide))) hkp (fun k_ hk_ hs_ => (hk_.2) hs_)) (fun k_ hk_ => trivial)); replace BK776 := am (blk_kept (kz BK776) hkp (fun hs_ => (fun e_ => (Kd.R_ne HO772.out BK776.out (by decide)) e_) hs_)); replace HO772 := am (Kd.R_reok rfl hy0 (fun k_ e_ => HO772.out.1 k_ e_)); replace HB := am (hb); (try clear hb); (try clear hkp); (try clear hy0); obtain ⟨hcz29_0, hcz29_1, hfz29_0, hfz29_1⟩ := kc2 BK776.out) | ((with_reducible refine gate_callee (f := 46) rfl ?_); refine goesL_ (some 24) rfl rfl Try.func46 qz rfl #[.slice Ao20 t773.length co20] rfl mz ?_; (with_reducible refine (slices_Reverse_int_int.calls k (fun k_ => some k_ = (.slice Ao20 t773.length co20 : Value).ownBlock) (.slice Ao20 t773.length co20) t773 t778 w _ ?side1 ?side2 A7.out).mono ?_); (case side1 => repeat (first | (with_reducible first | exact HB.out | apply below_alloc | apply pw_below_drewN | apply below_drew1 | refine below_set ?_ GE767.out | refine below_set ?_ GE768.out | refine below_set ?_ GE776.out) | exact HB.out)); (case side2 => exact Kd.R_tight rfl HO775.out); rintro e w30 ⟨rfl, hy0, hb, hkp⟩; refine ⟨_, rfl, ?_⟩; replace BK767 := am (blk_kept (kz BK767) hkp (fun hs_ => (fun e_ => (Kd.R_ne HO775.out BK767.out (by decide)) e_) hs_)); replace BK768 := am (blk_kept (kz BK768) hkp (fun hs_ => (fun e_ => (Kd.R_ne HO775.out BK768.out (by decide)) e_) hs_)); replace HO772 := am (Kd.R_mono (ok' := fun k_ => True) (Kd.R_keptB ((Kd.R_apart' HO772.out (Kd.R_typed HO775.out) (by decide))) hkp (fun k_ hk_ hs_ => (hk_.2) hs_)) (fun k_ hk_ => trivial)); replace BK776 := am (blk_kept (kz BK776) hkp (fun hs_ => (fun e_ => (Kd.R_ne HO775.out BK776.out (by decide)) e_) hs_)); replace HO775 := am (Kd.R_reok rfl hy0 (fun k_ e_ => HO775.out.1 k_ e_)); replace HB := am (hb); (try clear hb); (try clear hkp); (try clear hy0); obtain ⟨hcz31_0, hcz31_1, hfz31_0, hfz31_1⟩ := kc2 BK776.out; obtain ⟨hcz32_0, hcz32_1, hfz32_0, hfz32_1⟩ := kc2 BK768.out))
  refine bodyPost_ret (results_ct rfl _ _ gb768 43 #[.slice Ao21 t770.length co21, .slice Ao20 t773.length co20] (0, 0) _ rfl (by (with_reducible repeat first | apply kN | apply kD | apply kA); refine blk_put (cs := #[.slice Ao21 t770.length co21, .slice none 0 0]) ?_ 1 _ rfl; (with_reducible repeat first | apply kN | apply kD | apply kA); refine blk_put (cs := #[.slice none 0 0, .slice none 0 0]) ?_ 0 _ rfl; (with_reducible repeat first | apply kN | apply kD | apply kA); exact BK768.out) Try.underlying43 rfl qz) rfl ?_
  exact ⟨_, _, ez, by (with_reducible repeat first | apply rA | apply rN | apply rD); exact Kd.R_mono (Kd.R_far (p := ⟨gb768, 1, none⟩) (Kd.R_far (p := ⟨gb768, 0, none⟩) (Kd.R_types HO772.out BK768.out (by decide)) (fun _ hk => hk.2) (.slice Ao21 t770.length co21)) (fun _ hk => hk.2) (.slice Ao20 t773.length co20)) (fun _ hk => trivial), by (with_reducible repeat first | apply rA | apply rN | apply rD); exact Kd.R_mono (Kd.R_far (p := ⟨gb768, 1, none⟩) (Kd.R_far (p := ⟨gb768, 0, none⟩) (Kd.R_types HO775.out BK768.out (by decide)) (fun _ hk => hk.2) (.slice Ao21 t770.length co21)) (fun _ hk => hk.2) (.slice Ao20 t773.length co20)) (fun _ hk => trivial), bz⟩
 ·
  rw [if_neg c3] at H
  have c3b0 : (t769 == 0) = false := beq_eq_false_iff_ne.mpr c3
  have c3b1 : (t769 != 0) = true := bne_iff_ne.mpr c3
  simp only [Option.some.injEq, Prod.mk.injEq] at H
  obtain ⟨rfl, rfl, rfl⟩ := H
  go_enter Try.func25, Try.ntmps25
  go_wp2_with (first | ((with_reducible refine gate_dst (N := 1) rfl ?_); refine box_event yz (N := 1) yz (cs := #[.slice A0_0 l0_0.length c0_0, .slice A0_1 l0_1.length c0_1]) (t := 43) gz ?_; intro gb767 hg w33 hbox hb; have BK767 := am (hbox); have GW767 := gwz (g := gb767) HB hg; have GE767 := GW767; replace HB := am (below_step bz hb); clear hb hbox hg) | ((with_reducible refine gate_dst (N := 2) rfl ?_); refine box_event yz (N := 2) yz (cs := #[.slice none 0 0, .slice none 0 0]) (t := 43) gz ?_; intro gb768 hg w34 hbox hb; have BK768 := am (hbox); have GW768 := gwz (g := gb768) HB hg; have GE768 := GW768; replace HB := am (below_step bz hb); have NB767_768 := nlt (g' := gb768) BK767 hg; have NB768_767 := ngt (g' := gb768) BK767 hg; replace BK767 := am (blk_below (o := .cells #[.slice A0_0 l0_0.length c0_0, .slice A0_1 l0_1.length c0_1] 43 (0, 0)) (kz BK767) hb); clear hb hbox hg; have hnb35 := NB767_768.out; have hnc35 := NB768_767.out; obtain ⟨hcz36_0, hcz36_1, hfz36_0, hfz36_1⟩ := kc2 BK767.out) | ((with_reducible refine gate_callee (f := 29) rfl ?_); refine goesL_ (some 7) rfl rfl Try.func29 qz rfl #[.agg #[.slice A0_0 l0_0.length c0_0, .slice A0_1 l0_1.length c0_1]] rfl mz ?_; (with_reducible refine (movement_Check.calls k _ _ l0_0 _ _ l0_1 t769 _ ?side1 ?side2 ?side3 ?side4 A2.out).mono ?_); (case side1 => exact cz HR0_0); (case side2 => exact HC0_0.out); (case side3 => exact cz HR0_1); (case side4 => exact HC0_1.out); rintro e w37 ⟨rfl, hb⟩; refine ⟨_, rfl, ?_⟩; replace BK767 := am (blk_below (o := .cells #[.slice A0_0 l0_0.length c0_0, .slice A0_1 l0_1.length c0_1] 43 (0, 0)) (kz BK767) hb); replace BK768 := am (blk_below (o := .cells #[.slice none 0 0, .slice none 0 0] 43 (0, 0)) (kz BK768) hb); replace HB := am (below_step bz hb); (try clear hb); (try clear hb2); (try clear hk); (try clear hi); obtain ⟨hcz38_0, hcz38_1, hfz38_0, hfz38_1⟩ := kc2 BK768.out))
  refine bodyPost_ret (results_ct rfl _ _ gb768 43 #[.slice none 0 0, .slice none 0 0] (0, 0) _ rfl (by (with_reducible repeat first | apply kN | apply kD | apply kA); refine blk_put (cs := #[.slice none 0 0, .slice none 0 0]) ?_ 1 _ rfl; (with_reducible repeat first | apply kN | apply kD | apply kA); refine blk_put (cs := #[.slice none 0 0, .slice none 0 0]) ?_ 0 _ rfl; (with_reducible repeat first | apply kN | apply kD | apply kA); exact BK768.out) Try.underlying43 rfl qz) rfl ?_
  exact ⟨_, _, ez, by first | exact Kd.R_nil _ _ _ _ _ | exact Kd.N_nil _ _ _ _ _ | exact Kd.V_nil _ _ _ _ _ | exact Kd.Q_nil _ _ _ _ _ | exact Kd.S_nil _ _ _ _ _, by first | exact Kd.R_nil _ _ _ _ _ | exact Kd.N_nil _ _ _ _ _ | exact Kd.V_nil _ _ _ _ _ | exact Kd.Q_nil _ _ _ _ _ | exact Kd.S_nil _ _ _ _ _, bz⟩

end Go.Proofs.Yteflngoiebgdaaa.X
