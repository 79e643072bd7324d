import Derived.Test.YtmdmajfgpmopbaaX0
import Derived.Test.YtmdmajfgpmopbaaX1
import Derived.Test.YtmdmajfgpmopbaaX42
import Derived.Test.YtmdmajfgpmopbaaX43
namespace Go.Proofs.Ytmdmajfgpmopbaa.X
open Go.RowKit YtmdmajfgpmopbaaW.PrintWords YtmdmajfgpmopbaaW.PrintLast YtmdmajfgpmopbaaW.PrintMore
attribute [local go_sem] max2_int min2_int max_two min_two max_three min_three max_four min_four
set_option linter.unusedVariables false
set_option linter.unusedSimpArgs false

attribute [local go_sem high] eqA35
/-! ### dancestudioref43_Path: function 12 -/
def dancestudioref43_Path.l0 : Nat → List (S35) → List Int → Int → Int → List (S53) → List Int → Option ((List (S35)) × List Int × Int)
 | 0, _, _, _, _, _, _ => none
 | k + 1, x6, x7, x8, x9, x276000, x276001 => if x9 ≤ x8 then (if x9 = 0 then (if 0 ≤ x9 then (if x9 < (x276000.length : Int) then (if x6.length < 8796093022208 then (if x7.length < 17592186044416 then (dancestudioref43_Path.l0 k (x6 ++ [(⟨(rd_T53 x276000 x9).f0.f0, (rd_T53 x276000 x9).f0.f1⟩ : S35)]) (x7 ++ [x9]) x8 (wrap64 (x9 + 1)) x276000 x276001) else (none)) else (none)) else (none)) else (none)) else (if x9 = x8 then (if 0 ≤ x9 then (if x9 < (x276000.length : Int) then (if x6.length < 8796093022208 then (if x7.length < 17592186044416 then (dancestudioref43_Path.l0 k (x6 ++ [(⟨(rd_T53 x276000 x9).f0.f0, (rd_T53 x276000 x9).f0.f1⟩ : S35)]) (x7 ++ [x9]) x8 (wrap64 (x9 + 1)) x276000 x276001) else (none)) else (none)) else (none)) else (none)) else ((dancestudioref43_step.f x276000 x276001 (wrap64 (x9 - 1))).bind fun bt297 => ((dancestudioref43_step.f x276000 x276001 x9).bind fun bt299 => (if (!(bt297.1 == bt299.1) || (!(bt297.2 == bt299.2))) = true then (if 0 ≤ x9 then (if x9 < (x276000.length : Int) then (if x6.length < 8796093022208 then (if x7.length < 17592186044416 then (dancestudioref43_Path.l0 k (x6 ++ [(⟨(rd_T53 x276000 x9).f0.f0, (rd_T53 x276000 x9).f0.f1⟩ : S35)]) (x7 ++ [x9]) x8 (wrap64 (x9 + 1)) x276000 x276001) else (none)) else (none)) else (none)) else (none)) else (dancestudioref43_Path.l0 k x6 x7 x8 (wrap64 (x9 + 1)) x276000 x276001)))))) else (some (x6, x7, 0))
def dancestudioref43_Path.f (k : Nat) (l0_0 : List (S53)) (l0_1 : List Int) : Option ((List (S35)) × List Int × Int) := (dancestudioref29_Check.f k l0_0 l0_1).bind fun t276 => (if t276 = 0 then (dancestudioref43_Path.l0 k (([] : List (S35))) (([] : List Int)) (l0_1.length : Int) 0 l0_0 l0_1) else (some (([] : List (S35)), ([] : List Int), t276)))
theorem dancestudioref43_Path.mono_l : ∀ k, (∀ y0 y1 y2 y3 y4 y5, LeO (dancestudioref43_Path.l0 k y0 y1 y2 y3 y4 y5) (dancestudioref43_Path.l0 (k + 1) y0 y1 y2 y3 y4 y5))
 | 0 => fun _ _ _ _ _ _ r h => by simp [dancestudioref43_Path.l0] at h
 | k + 1 => by
  have ih0 := dancestudioref43_Path.mono_l k
  ·
   intro y0 y1 y2 y3 y4 y5
   unfold dancestudioref43_Path.l0
   repeat' first
   | (with_reducible exact ih0 _ _ _ _ _ _)
   | (with_reducible exact dancestudioref29_Check.mono _ _ _)
   | (with_reducible exact LeO.refl _)
   | (with_reducible exact LeO.none _)
   | (with_reducible refine LeO.ite ?_ ?_)
   | (with_reducible refine LeO.bind ?_ (fun _ => ?_))
   | exact ih0 _ _ _ _ _ _
   | exact dancestudioref29_Check.mono _ _ _
   | exact LeO.none _
   | refine LeO.ite ?_ ?_
   | refine LeO.bind ?_ (fun _ => ?_)
theorem dancestudioref43_Path.mono : ∀ a0 a1 k, LeO (dancestudioref43_Path.f k a0 a1) (dancestudioref43_Path.f (k + 1) a0 a1) := by
 intro a0 a1 k
 have ih0 := dancestudioref43_Path.mono_l k
 unfold dancestudioref43_Path.f
 repeat' first
   | (with_reducible exact ih0 _ _ _ _ _ _)
   | (with_reducible exact dancestudioref29_Check.mono _ _ _)
   | (with_reducible exact LeO.refl _)
   | (with_reducible exact LeO.none _)
   | (with_reducible refine LeO.ite ?_ ?_)
   | (with_reducible refine LeO.bind ?_ (fun _ => ?_))
   | exact ih0 _ _ _ _ _ _
   | exact dancestudioref29_Check.mono _ _ _
   | exact LeO.none _
   | refine LeO.ite ?_ ?_
   | refine LeO.bind ?_ (fun _ => ?_)
def dancestudioref43_Path.T4 : Bool × List (List Nat × List Nat) := (true, [([], []), ([], []), ([], []), ([2], [2]), ([3], [3]), ([0, 0], [0]), ([1, 5, 0, 1, 5], [1]), ([4, 6, 0, 1, 2, 3, 4, 5, 6], [4])])
def dancestudioref43_Path.B4 : List Nat := [0, 0, 0, 4, 12, 1, 35, 127]
theorem dancestudioref43_Path.tab4 : rtab .any (opsOf Try.f12 4) = dancestudioref43_Path.T4 := by kernel_rfl
theorem dancestudioref43_Path.bits4 : waitsOk dancestudioref43_Path.T4.2 dancestudioref43_Path.B4 = true := by kernel_rfl
def dancestudioref43_Path.T8 : Bool × List (List Nat × List Nat) := (true, [([], []), ([0], [0]), ([1], [1]), ([2], [2]), ([2], [2]), ([3, 4, 2], [2, 3, 4]), ([2, 5], [2, 5]), ([6, 2], [6]), ([7], [7]), ([7], [7]), ([9, 7], [7, 9]), ([8, 10, 7, 7], [7, 8, 10]), ([7], [7]), ([7], [7]), ([12, 13, 11, 7], [7, 12, 13]), ([11, 14, 7], [7, 11, 14]), ([7, 15], [7, 15])])
def dancestudioref43_Path.B8 : List Nat := [0, 1, 3, 7, 7, 31, 63, 127, 255, 255, 767, 2047, 255, 255, 16383, 32767, 65535]
theorem dancestudioref43_Path.tab8 : rtab .any (opsOf Try.f12 8) = dancestudioref43_Path.T8 := by kernel_rfl
theorem dancestudioref43_Path.bits8 : waitsOk dancestudioref43_Path.T8.2 dancestudioref43_Path.B8 = true := by kernel_rfl
set_option maxHeartbeats 8000000 in
set_option maxRecDepth 100000 in
theorem dancestudioref43_Path.calls (k : Nat) (A0_0 : Option Addr) (c0_0 : Nat) (l0_0 : List (S53)) (A0_1 : Option Addr) (c0_1 : Nat) (l0_1 : List Int) (r1 : List (S35)) (r2 : List Int) (r3 : Int) (w : World) (hr0_0 : Kd.C k53 w A0_0 l0_0.length l0_0) (hc0_0 : l0_0.length ≤ c0_0) (hr0_1 : Kd.C (Kd.int .i64) w A0_1 l0_1.length l0_1) (hc0_1 : l0_1.length ≤ c0_1) (h : dancestudioref43_Path.f k l0_0 l0_1 = some (r1, r2, r3)) :
  Calls Try.prog 12 #[.agg #[.slice A0_0 l0_0.length c0_0, .slice A0_1 l0_1.length c0_1]] w fun e w' => ∃ v0_ v1_ : Value, e = .returned (.tuple #[v0_, v1_, .int .i64 r3]) ∧ Kd.R k35 35 w' w.heap.size (fun _ => True) v0_ r1 ∧ Kd.R (Kd.int .i64) 3 w' w.heap.size (fun _ => True) v1_ r2 ∧ Below w.heap.size w w' := by
 have hu25 := Try.underlying25
 have hu35 := Try.underlying35
 have HR0_0 := am hr0_0
 have HC0_0 := am hc0_0
 clear hr0_0 hc0_0
 have HR0_1 := am hr0_1
 have HC0_1 := am hc0_1
 clear hr0_1 hc0_1
 have HB := am (Below.refl w.heap.size w)
 have H : ((dancestudioref29_Check.f k l0_0 l0_1).bind fun t276 => (if t276 = 0 then (dancestudioref43_Path.l0 k (([] : List (S35))) (([] : List Int)) (l0_1.length : Int) 0 l0_0 l0_1) else (some (([] : List (S35)), ([] : List Int), t276)))) = some (r1, r2, r3) := h
 clear h
 replace H := Option.bind_eq_some_iff.mp H
 obtain ⟨t276, A20, H⟩ := H
 replace H : (if t276 = 0 then (dancestudioref43_Path.l0 k (([] : List (S35))) (([] : List Int)) (l0_1.length : Int) 0 l0_0 l0_1) else (some (([] : List (S35)), ([] : List Int), t276))) = some (r1, r2, r3) := H
 have A2 := am A20
 clear A20
 by_cases c3 : t276 = 0
 ·
  rw [if_pos c3] at H
  have c3b0 : (t276 == 0) = true := beq_iff_eq.mpr c3
  have c3b1 : (t276 != 0) = false := bne_eq_false_iff_eq.mpr c3
  clear c3
  obtain ⟨y277, hy277⟩ : ∃ y_ : List (S35), y_ = (([] : List (S35))) := ⟨_, rfl⟩
  replace H : (dancestudioref43_Path.l0 k y277 (([] : List Int)) (l0_1.length : Int) 0 l0_0 l0_1) = some (r1, r2, r3) := by first | (rw [hy277]; with_reducible exact H) | (have H2_ := (Option.bind_some _ _).symm.trans H; rw [hy277]; with_reducible exact H2_) | (have H2_ := (Option.bind_some _ _).symm.trans H; with_reducible exact H2_) | with_reducible exact H | (rw [hy277]; exact H) | exact H
  have Ny277 := am hy277
  clear hy277
  obtain ⟨y280, hy280⟩ : ∃ y_ : List Int, y_ = (([] : List Int)) := ⟨_, rfl⟩
  replace H : (dancestudioref43_Path.l0 k y277 y280 (l0_1.length : Int) 0 l0_0 l0_1) = some (r1, r2, r3) := by first | (rw [hy280]; with_reducible exact H) | (have H2_ := (Option.bind_some _ _).symm.trans H; rw [hy280]; with_reducible exact H2_) | (have H2_ := (Option.bind_some _ _).symm.trans H; with_reducible exact H2_) | with_reducible exact H | (rw [hy280]; exact H) | exact H
  have Ny280 := am hy280
  clear hy280
  have H' := am H
  clear H
  go_enter Try.func12, Try.ntmps12
  try go_wp2_with (first | ((with_reducible refine gate_dst (N := 1) rfl ?_); refine box_event yz (N := 1) yz (cs := #[.slice A0_0 l0_0.length c0_0, .slice A0_1 l0_1.length c0_1]) (t := 25) gz ?_; intro gb275 hg w4 hbox hb; have BK275 := am (hbox); have GW275 := gwz (g := gb275) HB hg; have GE275 := GW275; replace HB := am (below_step bz hb); clear hb hbox hg; obtain ⟨hcz5_0, hcz5_1, hfz5_0, hfz5_1⟩ := kc2 BK275.out) | ((with_reducible refine gate_callee (f := 28) rfl ?_); refine goesL_ (some 11) rfl rfl Try.func28 qz rfl #[.agg #[.slice A0_0 l0_0.length c0_0, .slice A0_1 l0_1.length c0_1]] rfl mz ?_; (with_reducible refine (dancestudioref29_Check.calls k _ _ l0_0 _ _ l0_1 t276 _ ?side1 ?side2 ?side3 ?side4 A2.out).mono ?_); (case side1 => exact cz HR0_0); (case side2 => exact HC0_0.out); (case side3 => exact cz HR0_1); (case side4 => exact HC0_1.out); rintro e w6 ⟨rfl, hb⟩; refine ⟨_, rfl, ?_⟩; replace BK275 := am (blk_below (o := .cells #[.slice A0_0 l0_0.length c0_0, .slice A0_1 l0_1.length c0_1] 25 (0, 0)) (kz BK275) hb); replace HB := am (below_step bz hb); (try clear hb); (try clear hb2); (try clear hk); (try clear hi)))
  have n0_ := am (blk_drew BK275.out)
  have n1_ := am (below_drew1 HB.out)
  clear BK275
  clear HB
  have BK275 := n0_
  have HB := n1_
  clear n0_ n1_
  refine start_ (n := 8) (S := fun w' => True) (ds := []) (bm 8 0) qz rfl rfl trivial (fun hHeld => ?_); refine with_tabW dancestudioref43_Path.tab4 dancestudioref43_Path.bits4 (fun HT_ HW_ => ?_)
  generalize w6.drew = w7 at BK275 HB hHeld ⊢
  refine pa (i := 2) (N := some 17) (bm 8 4) HT_ ?_
  refine inv_at [0, 1, 3, 4, 5, 6, 7] (fun a0_ b a w' => ∃ (v278 : Value) (v281 : Value) (m5_ : Value) (m6_ : Value), a = putSel a0_ b [(0, 15, v278), (1, 16, v281), (3, 18, .slice A0_1 l0_1.length c0_1), (4, 19, .int .i64 (l0_1.length : Int)), (5, 6, m5_), (6, 7, m6_), (7, 8, .int .i64 (l0_1.length : Int))] ∧ (w'.heap[gb275]? = some (.cells #[.slice A0_0 l0_0.length c0_0, .slice A0_1 l0_1.length c0_1] 25 (0, 0))) ∧ (Below w.heap.size w w') ∧ (b 0 = true → Kd.R k35 35 w' w.heap.size (fun _ => True) v278 y277) ∧ (b 1 = true → Kd.R (Kd.int .i64) 3 w' w.heap.size (fun _ => True) v281 y280) ∧ (b 5 = true → (m5_ : Value) = v278) ∧ (b 6 = true → (m6_ : Value) = v281)) HT_.out HW_.out qz qz ?_ ?_ ?_
  ·
   exact ⟨.bool false, .bool false, .bool false, .bool false, by simp only [putSel, Bool.false_eq_true, if_false], BK275.out, HB.out, fun h_ => absurd h_ (by decide), fun h_ => absurd h_ (by decide), fun h_ => absurd h_ (by decide), fun h_ => absurd h_ (by decide)⟩
  ·
   skip
   clear BK275 HB
   refine steps_cons ?_ ?_
   ·
    rintro b a w' ⟨v278, v281, m5_, m6_, ha, Q_BK275, Q_HB, Q_HO279, Q_HO282, Q_X5_, Q_X6_⟩ hb_ hon hoff
    refine ⟨_, rfl, fun K hK => ?_⟩
    replace ha := am ha
    have BK275 := am Q_BK275
    have HB := am Q_HB
    refine Kd.R_lit_step k35 _ 35 ?hg (N := 15) ?hd (xs := ([] : List (S35))) (inner := []) (ok := fun _ => True) (okp := fun _ => True) ?hr ?hp (fun _ hk => hk) trivial (Below.refl _ _) (Nat.le_refl _) (by simp) ?_; (case hd => rfl); (case hg => rfl); (case hr => first | (go_simp; done) | (go_simp; rfl)); (case hp => exact (Reps.none _ _))
    intro v278 w8 ho9 hb hg_ hnew_
    clear hg_ hnew_
    (first | rw [← Ny277.out] at ho9 | (simp only [Int.reduceToNat] at ho9; rw [← Ny277.out] at ho9))
    have n0_ := am (Kd.R_lower ho9 (below_size bz))
    have n1_ := am (blk_below (o := .cells #[.slice A0_0 l0_0.length c0_0, .slice A0_1 l0_1.length c0_1] 25 (0, 0)) (kz BK275) hb)
    have n2_ := am (below_step bz hb)
    have z_HO282 := fun (h0_ : b 1 = true) => (show Kd.R (Kd.int .i64) 3 w8 w.heap.size (fun _ => True) v281 y280 from by first | exact (Kd.R_below (by (with_reducible repeat first | apply rA | apply rN | apply rD); exact (Q_HO282 h0_)) hb) | exact Kd.R_mono (Kd.R_below (by (with_reducible repeat first | apply rA | apply rN | apply rD); exact (Q_HO282 h0_)) hb) (fun _ h_ => by first | trivial | exact h_ | exact h_.1))
    clear BK275
    clear HB
    have HO279 := n0_
    have BK275 := n1_
    have HB := n2_
    clear n0_ n1_ n2_
    clear hb ho9
    refine hK.out _ _ ⟨v278, v281, m5_, m6_, (by rw [ha.out]; exact putSel_upk 0 hb_ rfl rfl rfl), (kz BK275), bz, fun _ => (rz HO279), z_HO282, fun h0_ => absurd ((hoff 5 qz).symm.trans h0_) (by decide), fun h0_ => absurd ((hoff 6 qz).symm.trans h0_) (by decide)⟩
   refine steps_cons ?_ ?_
   ·
    rintro b a w' ⟨v278, v281, m5_, m6_, ha, Q_BK275, Q_HB, Q_HO279, Q_HO282, Q_X5_, Q_X6_⟩ hb_ hon hoff
    refine ⟨_, rfl, fun K hK => ?_⟩
    replace ha := am ha
    have BK275 := am Q_BK275
    have HB := am Q_HB
    refine Kd.R_lit_step (Kd.int .i64) _ 3 ?hg (N := 16) ?hd (xs := ([] : List Int)) (inner := []) (ok := fun _ => True) (okp := fun _ => True) ?hr ?hp (fun _ hk => hk) trivial (Below.refl _ _) (Nat.le_refl _) (by simp) ?_; (case hd => rfl); (case hg => rfl); (case hr => first | (go_simp; done) | (go_simp; rfl)); (case hp => exact (Reps.none _ _))
    intro v281 w8 ho9 hb hg_ hnew_
    clear hg_ hnew_
    (first | rw [← Ny280.out] at ho9 | (simp only [Int.reduceToNat] at ho9; rw [← Ny280.out] at ho9))
    have n0_ := am (Kd.R_lower ho9 (below_size bz))
    have n1_ := am (blk_below (o := .cells #[.slice A0_0 l0_0.length c0_0, .slice A0_1 l0_1.length c0_1] 25 (0, 0)) (kz BK275) hb)
    have n2_ := am (below_step bz hb)
    have z_HO279 := fun (h0_ : b 0 = true) => (show Kd.R k35 35 w8 w.heap.size (fun _ => True) v278 y277 from by first | exact (Kd.R_below (by (with_reducible repeat first | apply rA | apply rN | apply rD); exact (Q_HO279 h0_)) hb) | exact Kd.R_mono (Kd.R_below (by (with_reducible repeat first | apply rA | apply rN | apply rD); exact (Q_HO279 h0_)) hb) (fun _ h_ => by first | trivial | exact h_ | exact h_.1))
    clear BK275
    clear HB
    have HO282 := n0_
    have BK275 := n1_
    have HB := n2_
    clear n0_ n1_ n2_
    clear hb ho9
    refine hK.out _ _ ⟨v278, v281, m5_, m6_, (by rw [ha.out]; exact putSel_upk 1 hb_ rfl rfl rfl), (kz BK275), bz, z_HO279, fun _ => (rz HO282), Q_X5_, fun h0_ => absurd ((hoff 6 qz).symm.trans h0_) (by decide)⟩
   refine steps_cons ?_ ?_
   ·
    rintro b a w' ⟨v278, v281, m5_, m6_, ha, Q_BK275, Q_HB, Q_HO279, Q_HO282, Q_X5_, Q_X6_⟩ hb_ hon hoff
    refine ⟨_, rfl, fun K hK => ?_⟩
    have e17 : a.tmps[17]? = some (.pointer (some ⟨gb275, 1, none⟩)) := by rw [ha]; exact (putSel_off rfl).trans rfl
    replace ha := am ha
    have BK275 := am Q_BK275
    have HB := am Q_HB
    have hc0_ : w'.cell? ⟨gb275, 0, none⟩ = some (.slice A0_0 l0_0.length c0_0) := (blk_cell BK275.out 0).trans rfl
    have hc1_ : w'.cell? ⟨gb275, 1, none⟩ = some (.slice A0_1 l0_1.length c0_1) := (blk_cell BK275.out 1).trans rfl
    refine value_ (w1 := w') (v := .slice A0_1 l0_1.length c0_1) (by rfl) rfl ?_ ?_
    ·
     go_simp
     (try simp only [i64_w])
     try rfl
    refine hK.out _ _ ⟨v278, v281, m5_, m6_, (by rw [ha.out]; exact putSel_upk 2 hb_ rfl rfl rfl), Q_BK275, Q_HB, Q_HO279, Q_HO282, Q_X5_, Q_X6_⟩
   refine steps_cons ?_ ?_
   ·
    rintro b a w' ⟨v278, v281, m5_, m6_, ha, Q_BK275, Q_HB, Q_HO279, Q_HO282, Q_X5_, Q_X6_⟩ hb_ hon hoff
    refine ⟨_, rfl, fun K hK => ?_⟩
    have e18 : a.tmps[18]? = some (.slice A0_1 l0_1.length c0_1) := by rw [ha]; exact putSel_on (e := (3, 18, .slice A0_1 l0_1.length c0_1)) 2 rfl rfl (hon 3 qz) rfl
    replace ha := am ha
    have BK275 := am Q_BK275
    have HB := am Q_HB
    refine value_ (w1 := w') (v := .int .i64 (l0_1.length : Int)) (by rfl) rfl ?_ ?_
    ·
     go_simp
     (try simp only [i64_w])
     try rfl
    refine hK.out _ _ ⟨v278, v281, m5_, m6_, (by rw [ha.out]; exact putSel_upk 3 hb_ rfl rfl rfl), Q_BK275, Q_HB, Q_HO279, Q_HO282, Q_X5_, Q_X6_⟩
   refine steps_cons ?_ ?_
   ·
    rintro b a w' ⟨v278, v281, m5_, m6_, ha, Q_BK275, Q_HB, Q_HO279, Q_HO282, Q_X5_, Q_X6_⟩ hb_ hon hoff
    refine ⟨_, rfl, fun K hK => ?_⟩
    have e15 : a.tmps[15]? = some (v278) := by rw [ha]; exact putSel_on (e := (0, 15, v278)) 0 rfl rfl (hon 0 qz) rfl
    replace ha := am ha
    have BK275 := am Q_BK275
    have HB := am Q_HB
    have HO279 := am (Q_HO279 (hon 0 qz))
    refine value_ (w1 := w') (v := v278) (by rfl) rfl ?_ ?_
    ·
     go_simp
     (try simp only [i64_w])
     try rfl
    refine hK.out _ _ ⟨v278, v281, (v278), m6_, (by rw [ha.out]; exact putSel_upk 4 hb_ rfl rfl rfl), Q_BK275, Q_HB, Q_HO279, Q_HO282, fun _ => rfl, fun h0_ => absurd ((hoff 6 qz).symm.trans h0_) (by decide)⟩
   refine steps_cons ?_ ?_
   ·
    rintro b a w' ⟨v278, v281, m5_, m6_, ha, Q_BK275, Q_HB, Q_HO279, Q_HO282, Q_X5_, Q_X6_⟩ hb_ hon hoff
    refine ⟨_, rfl, fun K hK => ?_⟩
    have e16 : a.tmps[16]? = some (v281) := by rw [ha]; exact putSel_on (e := (1, 16, v281)) 1 rfl rfl (hon 1 qz) rfl
    replace ha := am ha
    have BK275 := am Q_BK275
    have HB := am Q_HB
    have HO279 := am (Q_HO279 (hon 0 qz))
    have HO282 := am (Q_HO282 (hon 1 qz))
    refine value_ (w1 := w') (v := v281) (by rfl) rfl ?_ ?_
    ·
     go_simp
     (try simp only [i64_w])
     try rfl
    refine hK.out _ _ ⟨v278, v281, m5_, (v281), (by rw [ha.out]; exact putSel_upk 5 hb_ rfl rfl rfl), Q_BK275, Q_HB, Q_HO279, Q_HO282, Q_X5_, fun _ => rfl⟩
   refine steps_cons ?_ ?_
   ·
    rintro b a w' ⟨v278, v281, m5_, m6_, ha, Q_BK275, Q_HB, Q_HO279, Q_HO282, Q_X5_, Q_X6_⟩ hb_ hon hoff
    refine ⟨_, rfl, fun K hK => ?_⟩
    have e19 : a.tmps[19]? = some (.int .i64 (l0_1.length : Int)) := by rw [ha]; exact putSel_on (e := (4, 19, .int .i64 (l0_1.length : Int))) 3 rfl rfl (hon 4 qz) rfl
    replace ha := am ha
    have BK275 := am Q_BK275
    have HB := am Q_HB
    have HO279 := am (Q_HO279 (hon 0 qz))
    have HO282 := am (Q_HO282 (hon 1 qz))
    refine value_ (w1 := w') (v := .int .i64 (l0_1.length : Int)) (by rfl) rfl ?_ ?_
    ·
     go_simp
     (try simp only [i64_w])
     try rfl
    refine hK.out _ _ ⟨v278, v281, m5_, m6_, (by rw [ha.out]; exact putSel_upk 6 hb_ rfl rfl rfl), Q_BK275, Q_HB, Q_HO279, Q_HO282, Q_X5_, Q_X6_⟩
   exact steps_nil
  rintro b a w12 hall ⟨v278, v281, m5_, m6_, ha, Q_BK275, Q_HB, Q_HO279, Q_HO282, Q_X5_, Q_X6_⟩
  clear BK275 HB
  have hb0_ := hall 0 qz
  have hb1_ := hall 1 qz
  have hb3_ := hall 3 qz
  have hb4_ := hall 4 qz
  have hb5_ := hall 5 qz
  have hb6_ := hall 6 qz
  have hb7_ := hall 7 qz
  subst ha
  obtain rfl := Q_X5_ hb5_
  obtain rfl := Q_X6_ hb6_
  simp only [putSel, hb0_, hb1_, hb3_, hb4_, hb5_, hb6_, hb7_, if_true, Act.put, List.setIfInBounds_toArray, List.set_cons_zero, List.set_cons_succ]
  have BK275 := am Q_BK275
  clear Q_BK275
  have HB := am Q_HB
  clear Q_HB
  have HO279 := am (Q_HO279 hb0_)
  clear Q_HO279
  have HO282 := am (Q_HO282 hb1_)
  clear Q_HO282
  clear hall hb0_ hb1_ hb3_ hb4_ hb5_ hb6_ hb7_
  try go_wp2
  go_loopg [6, 7, 9] k (fun kq v6 v7 v9 w' => ∃ (x6_1 : List (S35)) (x7_1 : List Int) (x9_1 : Int), v9 = .int .i64 x9_1 ∧ Aside0 (dancestudioref43_Path.l0 kq x6_1 x7_1 (l0_1.length : Int) x9_1 l0_0 l0_1 = some (r1, r2, r3)) ∧ Aside0 (kq ≤ k) ∧ Aside0 (Kd.R k35 35 w' w.heap.size (fun _ => True) v6 x6_1) ∧ Aside0 (Kd.R (Kd.int .i64) 3 w' w.heap.size (fun _ => True) v7 x7_1) ∧ Aside0 (w'.heap[gb275]? = some (.cells #[(.slice A0_0 l0_0.length c0_0), (.slice A0_1 l0_1.length c0_1)] 25 (0, 0))) ∧ Aside0 (Below w.heap.size w w'))
  case atStart => exact ⟨(y277), (y280), (0), sz, H', ⟨Nat.le_refl _⟩, ⟨rz HO279⟩, ⟨rz HO282⟩, ⟨kz BK275⟩, ⟨bz⟩⟩
  case round =>
   clear H'
   try clear c1
   try clear c2
   try clear p2
   try clear c3
   try clear c3b0
   try clear c3b1
   try clear c12
   try clear hcz5_0
   try clear hcz5_1
   try clear hfz5_0
   try clear hfz5_1
   obtain ⟨x6_1, x7_1, x9_1, rfl, HA, HK1, HO_6, HO_7, BK275, HB⟩ := hrel
   cases gk with
   | zero => exact absurd HA.out (by simp [dancestudioref43_Path.l0])
   | succ k1 =>
    have H := HA.out
    clear HA
    simp only [dancestudioref43_Path.l0] at H
    by_cases c13 : x9_1 ≤ (l0_1.length : Int)
    ·
     rw [if_pos c13] at H
     have c13b0 := decide_eq_true c13
     clear c13
     by_cases c14 : x9_1 = 0
     ·
      rw [if_pos c14] at H
      have c14b0 : (x9_1 == 0) = true := beq_iff_eq.mpr c14
      have c14b1 : (x9_1 != 0) = false := bne_eq_false_iff_eq.mpr c14
      clear c14
      by_cases c15 : 0 ≤ x9_1; rotate_left
      · rw [if_neg c15] at H; exact absurd H (by simp)
      rw [if_pos c15] at H
      have c15b0 := decide_eq_true c15
      clear c15
      by_cases c16 : x9_1 < (l0_0.length : Int); rotate_left
      · rw [if_neg c16] at H; exact absurd H (by simp)
      rw [if_pos c16] at H
      have c16b0 := decide_eq_true c16
      clear c16
      by_cases c17 : x6_1.length < 8796093022208; rotate_left
      · rw [if_neg c17] at H; exact absurd H (by simp)
      rw [if_pos c17] at H
      have LMc17 := am c17
      clear c17
      obtain ⟨y284, hy284⟩ : ∃ y_ : List (S35), y_ = (x6_1 ++ [(⟨(rd_T53 l0_0 x9_1).f0.f0, (rd_T53 l0_0 x9_1).f0.f1⟩ : S35)]) := ⟨_, rfl⟩
      replace H : (if x7_1.length < 17592186044416 then (dancestudioref43_Path.l0 k1 y284 (x7_1 ++ [x9_1]) (l0_1.length : Int) (wrap64 (x9_1 + 1)) l0_0 l0_1) else (none)) = some (r1, r2, r3) := by first | (rw [hy284]; with_reducible exact H) | (have H2_ := (Option.bind_some _ _).symm.trans H; rw [hy284]; with_reducible exact H2_) | (have H2_ := (Option.bind_some _ _).symm.trans H; with_reducible exact H2_) | with_reducible exact H | (rw [hy284]; exact H) | exact H
      have Ny284 := am hy284
      clear hy284
      by_cases c18 : x7_1.length < 17592186044416; rotate_left
      · rw [if_neg c18] at H; exact absurd H (by simp)
      rw [if_pos c18] at H
      have LMc18 := am c18
      clear c18
      obtain ⟨y287, hy287⟩ : ∃ y_ : List Int, y_ = (x7_1 ++ [x9_1]) := ⟨_, rfl⟩
      replace H : (dancestudioref43_Path.l0 k1 y284 y287 (l0_1.length : Int) (wrap64 (x9_1 + 1)) l0_0 l0_1) = some (r1, r2, r3) := by first | (rw [hy287]; with_reducible exact H) | (have H2_ := (Option.bind_some _ _).symm.trans H; rw [hy287]; with_reducible exact H2_) | (have H2_ := (Option.bind_some _ _).symm.trans H; with_reducible exact H2_) | with_reducible exact H | (rw [hy287]; exact H) | exact H
      have Ny287 := am hy287
      clear hy287
      have H' := am H
      clear H
      try go_wp2
      have n0_ := am (Kd.R_drew HO_6.out)
      have n1_ := am (Kd.R_drew HO_7.out)
      have n2_ := am (blk_drew BK275.out)
      have n3_ := am (below_drew1 HB.out)
      clear HO_6
      clear HO_7
      clear BK275
      clear HB
      have HO_6 := n0_
      have HO_7 := n1_
      have BK275 := n2_
      have HB := n3_
      clear n0_ n1_ n2_ n3_
      refine start_ (n := 17) (S := fun w' => True) (ds := []) (bm 17 0) qz rfl rfl trivial (fun hHeld => ?_); refine with_tabW dancestudioref43_Path.tab8 dancestudioref43_Path.bits8 (fun HT_ HW_ => ?_)
      generalize wr.drew = w19 at HO_6 HO_7 BK275 HB hHeld ⊢
      refine pa (i := 0) (N := some 25) (bm 17 1) HT_ ?_
      refine pa (i := 1) (N := some 26) (bm 17 3) HT_ ?_
      refine pa (i := 2) (N := some 27) (bm 17 7) HT_ ?_
      refine pu (i := 3) (N := some 28) (bm 17 15) HT_ ?_
      refine pu (i := 4) (N := some 29) (bm 17 31) HT_ ?_
      refine pu (i := 5) (N := some 30) (bm 17 63) HT_ ?_
      refine pa (i := 6) (N := some 31) (bm 17 127) HT_ ?_
      refine pa (i := 7) (N := some 32) (bm 17 255) HT_ ?_
      refine pu (i := 8) (N := some 33) (bm 17 511) HT_ ?_
      refine pu (i := 9) (N := some 34) (bm 17 1023) HT_ ?_
      refine pu (i := 10) (N := some 35) (bm 17 2047) HT_ ?_
      refine pu (i := 11) (N := some 36) (bm 17 4095) HT_ ?_
      refine pu (i := 12) (N := some 37) (bm 17 8191) HT_ ?_
      refine pu (i := 13) (N := some 38) (bm 17 16383) HT_ ?_
      refine pu (i := 14) (N := some 39) (bm 17 32767) HT_ ?_
      refine pu (i := 15) (N := some 40) (bm 17 65535) HT_ ?_
      refine pa (i := 16) (N := some 41) (bm 17 131071) HT_ ?_
      refine done_ (done_of HT_.out qz) ?_
      obtain ⟨hcz20_0, hcz20_1, hfz20_0, hfz20_1⟩ := kc2 BK275.out
      have p283 : 0 ≤ (x9_1 : Int) := az
      have q283 : x9_1 < (l0_0.length : Int) := az
      obtain ⟨ad283, e283, hx283_0, hx283_1, _, _, _, _, _, _, _, _, _, _, _, _, _, _, _, _, _, _, _, _⟩ := at_T53 HR0_0.out x9_1 p283 q283
      cases e283
      replace hx283_0 := cb HB.out hx283_0
      replace hx283_1 := cb HB.out hx283_1
      replace p283 := eq_true p283
      replace q283 := eq_true q283
      try go_wp2_with (first | ((with_reducible refine gate_builtin (b := .append) (xs := #[.tmp 42, .tmp 49]) rfl ?_); at_builtin; refine Kd.R_append k35 (w0 := w) w.heap.size rfl (.tmp 42) (.tmp 49) 28 35 (.agg #[(.int .i64 0), (.int .i64 0)]) 16 rfl Try.underlying28 info35 rfl (by decide) (by omega) u6 x6_1 (⟨(rd_T53 l0_0 x9_1).f0.f0, (rd_T53 l0_0 x9_1).f0.f1⟩ : S35) [.int .i64 ((rd_T53 l0_0 x9_1).f0.f0), .int .i64 ((rd_T53 l0_0 x9_1).f0.f1)] (fun _ => True) (fun _ => False) rfl rfl ?aP (fun _ hk => hk.elim) ?aF ?aO ?aB ?aS ?aL ?_; (case aP => exact k35_mkM _ _ _ (⟨(rd_T53 l0_0 x9_1).f0.f0, (rd_T53 l0_0 x9_1).f0.f1⟩ : S35)); (case aB => exact bz); (case aF => exact (fun _ _ => trivial)); (case aO => exact (rz HO_6)); (case aS => exact (below_size bz)); (case aL => have := LMc17.out; omega); intro v285 w21 ho hb hg hat; rw [← Ny284.out] at ho; replace HO_7 := am (Kd.R_over' (rz HO_7) (Kd.R_typed (rz HO_6)) (by decide) hg); replace BK275 := am (blk_grown (g := gb275) (o := .cells #[.slice (some ad283) l0_0.length c0_0, .slice A0_1 l0_1.length c0_1] 25 (0, 0)) (kz BK275) hg (Kd.R_ne HO_6.out BK275.out (by decide))); replace HB := am (hb); have HO286 := am (ho); clear HO_6; clear ho hb hg hat) | ((with_reducible refine gate_builtin (b := .append) (xs := #[.tmp 51, .tmp 53]) rfl ?_); at_builtin; refine Kd.R_append (Kd.int .i64) (w0 := w) w.heap.size rfl (.tmp 51) (.tmp 53) 23 3 (.int .i64 0) 8 rfl Try.underlying23 info3 rfl (by decide) (by omega) u7 x7_1 x9_1 [.int .i64 x9_1] (fun _ => True) (fun _ => False) rfl rfl ?aP (fun _ hk => hk.elim) ?aF ?aO ?aB ?aS ?aL ?_; (case aP => exact rfl); (case aB => exact bz); (case aF => exact (fun _ _ => trivial)); (case aO => exact (rz HO_7)); (case aS => exact (below_size bz)); (case aL => have := LMc18.out; omega); intro v288 w22 ho hb hg hat; rw [← Ny287.out] at ho; replace BK275 := am (blk_grown (g := gb275) (o := .cells #[.slice (some ad283) l0_0.length c0_0, .slice A0_1 l0_1.length c0_1] 25 (0, 0)) (kz BK275) hg (Kd.R_ne HO_7.out BK275.out (by decide))); replace HO286 := am (Kd.R_over' (rz HO286) (Kd.R_typed (rz HO_7)) (by decide) hg); replace HB := am (hb); have HO289 := am (ho); clear HO_7; clear ho hb hg hat))
      go_roundg k1
      case measure => have := HK1.out; omega
      case rel => exact ⟨(y284), (y287), (wrap64 (x9_1 + 1)), sz, H', ⟨by have := HK1.out; omega⟩, ⟨rz HO286⟩, ⟨rz HO289⟩, ⟨kz BK275⟩, ⟨bz⟩⟩
     ·
      rw [if_neg c14] at H
      have c14b0 : (x9_1 == 0) = false := beq_eq_false_iff_ne.mpr c14
      have c14b1 : (x9_1 != 0) = true := bne_iff_ne.mpr c14
      by_cases c23 : x9_1 = (l0_1.length : Int)
      ·
       rw [if_pos c23] at H
       have c23b0 : (x9_1 == (l0_1.length : Int)) = true := beq_iff_eq.mpr c23
       have c23b1 : (x9_1 != (l0_1.length : Int)) = false := bne_eq_false_iff_eq.mpr c23
       clear c23
       by_cases c24 : 0 ≤ x9_1; rotate_left
       · rw [if_neg c24] at H; exact absurd H (by simp)
       rw [if_pos c24] at H
       have c24b0 := decide_eq_true c24
       clear c24
       by_cases c25 : x9_1 < (l0_0.length : Int); rotate_left
       · rw [if_neg c25] at H; exact absurd H (by simp)
       rw [if_pos c25] at H
       have c25b0 := decide_eq_true c25
       clear c25
       by_cases c26 : x6_1.length < 8796093022208; rotate_left
       · rw [if_neg c26] at H; exact absurd H (by simp)
       rw [if_pos c26] at H
       have LMc26 := am c26
       clear c26
       obtain ⟨y291, hy291⟩ : ∃ y_ : List (S35), y_ = (x6_1 ++ [(⟨(rd_T53 l0_0 x9_1).f0.f0, (rd_T53 l0_0 x9_1).f0.f1⟩ : S35)]) := ⟨_, rfl⟩
       replace H : (if x7_1.length < 17592186044416 then (dancestudioref43_Path.l0 k1 y291 (x7_1 ++ [x9_1]) (l0_1.length : Int) (wrap64 (x9_1 + 1)) l0_0 l0_1) else (none)) = some (r1, r2, r3) := by first | (rw [hy291]; with_reducible exact H) | (have H2_ := (Option.bind_some _ _).symm.trans H; rw [hy291]; with_reducible exact H2_) | (have H2_ := (Option.bind_some _ _).symm.trans H; with_reducible exact H2_) | with_reducible exact H | (rw [hy291]; exact H) | exact H
       have Ny291 := am hy291
       clear hy291
       by_cases c27 : x7_1.length < 17592186044416; rotate_left
       · rw [if_neg c27] at H; exact absurd H (by simp)
       rw [if_pos c27] at H
       have LMc27 := am c27
       clear c27
       obtain ⟨y294, hy294⟩ : ∃ y_ : List Int, y_ = (x7_1 ++ [x9_1]) := ⟨_, rfl⟩
       replace H : (dancestudioref43_Path.l0 k1 y291 y294 (l0_1.length : Int) (wrap64 (x9_1 + 1)) l0_0 l0_1) = some (r1, r2, r3) := by first | (rw [hy294]; with_reducible exact H) | (have H2_ := (Option.bind_some _ _).symm.trans H; rw [hy294]; with_reducible exact H2_) | (have H2_ := (Option.bind_some _ _).symm.trans H; with_reducible exact H2_) | with_reducible exact H | (rw [hy294]; exact H) | exact H
       have Ny294 := am hy294
       clear hy294
       have H' := am H
       clear H
       try go_wp2
       have n0_ := am (Kd.R_drew HO_6.out)
       have n1_ := am (Kd.R_drew HO_7.out)
       have n2_ := am (blk_drew BK275.out)
       have n3_ := am (below_drew1 HB.out)
       clear HO_6
       clear HO_7
       clear BK275
       clear HB
       have HO_6 := n0_
       have HO_7 := n1_
       have BK275 := n2_
       have HB := n3_
       clear n0_ n1_ n2_ n3_
       refine start_ (n := 17) (S := fun w' => True) (ds := []) (bm 17 0) qz rfl rfl trivial (fun hHeld => ?_); refine with_tabW dancestudioref43_Path.tab8 dancestudioref43_Path.bits8 (fun HT_ HW_ => ?_)
       generalize wr.drew = w28 at HO_6 HO_7 BK275 HB hHeld ⊢
       refine pa (i := 0) (N := some 25) (bm 17 1) HT_ ?_
       refine pa (i := 1) (N := some 26) (bm 17 3) HT_ ?_
       refine pa (i := 2) (N := some 27) (bm 17 7) HT_ ?_
       refine pa (i := 3) (N := some 28) (bm 17 15) HT_ ?_
       refine pa (i := 4) (N := some 29) (bm 17 31) HT_ ?_
       refine pa (i := 5) (N := some 30) (bm 17 63) HT_ ?_
       refine pa (i := 6) (N := some 31) (bm 17 127) HT_ ?_
       refine pa (i := 7) (N := some 32) (bm 17 255) HT_ ?_
       refine pu (i := 8) (N := some 33) (bm 17 511) HT_ ?_
       refine pu (i := 9) (N := some 34) (bm 17 1023) HT_ ?_
       refine pu (i := 10) (N := some 35) (bm 17 2047) HT_ ?_
       refine pu (i := 11) (N := some 36) (bm 17 4095) HT_ ?_
       refine pu (i := 12) (N := some 37) (bm 17 8191) HT_ ?_
       refine pu (i := 13) (N := some 38) (bm 17 16383) HT_ ?_
       refine pu (i := 14) (N := some 39) (bm 17 32767) HT_ ?_
       refine pu (i := 15) (N := some 40) (bm 17 65535) HT_ ?_
       refine pa (i := 16) (N := some 41) (bm 17 131071) HT_ ?_
       refine done_ (done_of HT_.out qz) ?_
       obtain ⟨hcz29_0, hcz29_1, hfz29_0, hfz29_1⟩ := kc2 BK275.out
       have p290 : 0 ≤ (x9_1 : Int) := az
       have q290 : x9_1 < (l0_0.length : Int) := az
       obtain ⟨ad290, e290, hx290_0, hx290_1, _, _, _, _, _, _, _, _, _, _, _, _, _, _, _, _, _, _, _, _⟩ := at_T53 HR0_0.out x9_1 p290 q290
       cases e290
       replace hx290_0 := cb HB.out hx290_0
       replace hx290_1 := cb HB.out hx290_1
       replace p290 := eq_true p290
       replace q290 := eq_true q290
       try go_wp2_with (first | ((with_reducible refine gate_builtin (b := .append) (xs := #[.tmp 42, .tmp 49]) rfl ?_); at_builtin; refine Kd.R_append k35 (w0 := w) w.heap.size rfl (.tmp 42) (.tmp 49) 28 35 (.agg #[(.int .i64 0), (.int .i64 0)]) 16 rfl Try.underlying28 info35 rfl (by decide) (by omega) u6 x6_1 (⟨(rd_T53 l0_0 x9_1).f0.f0, (rd_T53 l0_0 x9_1).f0.f1⟩ : S35) [.int .i64 ((rd_T53 l0_0 x9_1).f0.f0), .int .i64 ((rd_T53 l0_0 x9_1).f0.f1)] (fun _ => True) (fun _ => False) rfl rfl ?aP (fun _ hk => hk.elim) ?aF ?aO ?aB ?aS ?aL ?_; (case aP => exact k35_mkM _ _ _ (⟨(rd_T53 l0_0 x9_1).f0.f0, (rd_T53 l0_0 x9_1).f0.f1⟩ : S35)); (case aB => exact bz); (case aF => exact (fun _ _ => trivial)); (case aO => exact (rz HO_6)); (case aS => exact (below_size bz)); (case aL => have := LMc26.out; omega); intro v292 w30 ho hb hg hat; rw [← Ny291.out] at ho; replace HO_7 := am (Kd.R_over' (rz HO_7) (Kd.R_typed (rz HO_6)) (by decide) hg); replace BK275 := am (blk_grown (g := gb275) (o := .cells #[.slice (some ad290) l0_0.length c0_0, .slice A0_1 l0_1.length c0_1] 25 (0, 0)) (kz BK275) hg (Kd.R_ne HO_6.out BK275.out (by decide))); replace HB := am (hb); have HO293 := am (ho); clear HO_6; clear ho hb hg hat) | ((with_reducible refine gate_builtin (b := .append) (xs := #[.tmp 51, .tmp 53]) rfl ?_); at_builtin; refine Kd.R_append (Kd.int .i64) (w0 := w) w.heap.size rfl (.tmp 51) (.tmp 53) 23 3 (.int .i64 0) 8 rfl Try.underlying23 info3 rfl (by decide) (by omega) u7 x7_1 x9_1 [.int .i64 x9_1] (fun _ => True) (fun _ => False) rfl rfl ?aP (fun _ hk => hk.elim) ?aF ?aO ?aB ?aS ?aL ?_; (case aP => exact rfl); (case aB => exact bz); (case aF => exact (fun _ _ => trivial)); (case aO => exact (rz HO_7)); (case aS => exact (below_size bz)); (case aL => have := LMc27.out; omega); intro v295 w31 ho hb hg hat; rw [← Ny294.out] at ho; replace BK275 := am (blk_grown (g := gb275) (o := .cells #[.slice (some ad290) l0_0.length c0_0, .slice A0_1 l0_1.length c0_1] 25 (0, 0)) (kz BK275) hg (Kd.R_ne HO_7.out BK275.out (by decide))); replace HO293 := am (Kd.R_over' (rz HO293) (Kd.R_typed (rz HO_7)) (by decide) hg); replace HB := am (hb); have HO296 := am (ho); clear HO_7; clear ho hb hg hat))
       go_roundg k1
       case measure => have := HK1.out; omega
       case rel => exact ⟨(y291), (y294), (wrap64 (x9_1 + 1)), sz, H', ⟨by have := HK1.out; omega⟩, ⟨rz HO293⟩, ⟨rz HO296⟩, ⟨kz BK275⟩, ⟨bz⟩⟩
      ·
       rw [if_neg c23] at H
       have c23b0 : (x9_1 == (l0_1.length : Int)) = false := beq_eq_false_iff_ne.mpr c23
       have c23b1 : (x9_1 != (l0_1.length : Int)) = true := bne_iff_ne.mpr c23
       replace H := Option.bind_eq_some_iff.mp H
       obtain ⟨⟨t297, t298⟩, A320, H⟩ := H
       replace H : ((dancestudioref43_step.f l0_0 l0_1 x9_1).bind fun bt299 => (if (!(t297 == bt299.1) || (!(t298 == bt299.2))) = true then (if 0 ≤ x9_1 then (if x9_1 < (l0_0.length : Int) then (if x6_1.length < 8796093022208 then (if x7_1.length < 17592186044416 then (dancestudioref43_Path.l0 k1 (x6_1 ++ [(⟨(rd_T53 l0_0 x9_1).f0.f0, (rd_T53 l0_0 x9_1).f0.f1⟩ : S35)]) (x7_1 ++ [x9_1]) (l0_1.length : Int) (wrap64 (x9_1 + 1)) l0_0 l0_1) else (none)) else (none)) else (none)) else (none)) else (dancestudioref43_Path.l0 k1 x6_1 x7_1 (l0_1.length : Int) (wrap64 (x9_1 + 1)) l0_0 l0_1))) = some (r1, r2, r3) := H
       have A32 := am A320
       clear A320
       replace H := Option.bind_eq_some_iff.mp H
       obtain ⟨⟨t299, t300⟩, A330, H⟩ := H
       replace H : (if (!(t297 == t299) || (!(t298 == t300))) = true then (if 0 ≤ x9_1 then (if x9_1 < (l0_0.length : Int) then (if x6_1.length < 8796093022208 then (if x7_1.length < 17592186044416 then (dancestudioref43_Path.l0 k1 (x6_1 ++ [(⟨(rd_T53 l0_0 x9_1).f0.f0, (rd_T53 l0_0 x9_1).f0.f1⟩ : S35)]) (x7_1 ++ [x9_1]) (l0_1.length : Int) (wrap64 (x9_1 + 1)) l0_0 l0_1) else (none)) else (none)) else (none)) else (none)) else (dancestudioref43_Path.l0 k1 x6_1 x7_1 (l0_1.length : Int) (wrap64 (x9_1 + 1)) l0_0 l0_1)) = some (r1, r2, r3) := H
       have A33 := am A330
       clear A330
       by_cases c34 : (!(t297 == t299) || (!(t298 == t300))) = true
       ·
        rw [if_pos c34] at H
        have c34b0 : (!(t297 == t299) || (!(t298 == t300))) = true := c34
        clear c34
        by_cases c35 : 0 ≤ x9_1; rotate_left
        · rw [if_neg c35] at H; exact absurd H (by simp)
        rw [if_pos c35] at H
        have c35b0 := decide_eq_true c35
        clear c35
        by_cases c36 : x9_1 < (l0_0.length : Int); rotate_left
        · rw [if_neg c36] at H; exact absurd H (by simp)
        rw [if_pos c36] at H
        have c36b0 := decide_eq_true c36
        clear c36
        by_cases c37 : x6_1.length < 8796093022208; rotate_left
        · rw [if_neg c37] at H; exact absurd H (by simp)
        rw [if_pos c37] at H
        have LMc37 := am c37
        clear c37
        obtain ⟨y302, hy302⟩ : ∃ y_ : List (S35), y_ = (x6_1 ++ [(⟨(rd_T53 l0_0 x9_1).f0.f0, (rd_T53 l0_0 x9_1).f0.f1⟩ : S35)]) := ⟨_, rfl⟩
        replace H : (if x7_1.length < 17592186044416 then (dancestudioref43_Path.l0 k1 y302 (x7_1 ++ [x9_1]) (l0_1.length : Int) (wrap64 (x9_1 + 1)) l0_0 l0_1) else (none)) = some (r1, r2, r3) := by first | (rw [hy302]; with_reducible exact H) | (have H2_ := (Option.bind_some _ _).symm.trans H; rw [hy302]; with_reducible exact H2_) | (have H2_ := (Option.bind_some _ _).symm.trans H; with_reducible exact H2_) | with_reducible exact H | (rw [hy302]; exact H) | exact H
        have Ny302 := am hy302
        clear hy302
        by_cases c38 : x7_1.length < 17592186044416; rotate_left
        · rw [if_neg c38] at H; exact absurd H (by simp)
        rw [if_pos c38] at H
        have LMc38 := am c38
        clear c38
        obtain ⟨y305, hy305⟩ : ∃ y_ : List Int, y_ = (x7_1 ++ [x9_1]) := ⟨_, rfl⟩
        replace H : (dancestudioref43_Path.l0 k1 y302 y305 (l0_1.length : Int) (wrap64 (x9_1 + 1)) l0_0 l0_1) = some (r1, r2, r3) := by first | (rw [hy305]; with_reducible exact H) | (have H2_ := (Option.bind_some _ _).symm.trans H; rw [hy305]; with_reducible exact H2_) | (have H2_ := (Option.bind_some _ _).symm.trans H; with_reducible exact H2_) | with_reducible exact H | (rw [hy305]; exact H) | exact H
        have Ny305 := am hy305
        clear hy305
        have H' := am H
        clear H
        try go_wp2
        have n0_ := am (Kd.R_drew HO_6.out)
        have n1_ := am (Kd.R_drew HO_7.out)
        have n2_ := am (blk_drew BK275.out)
        have n3_ := am (below_drew1 HB.out)
        clear HO_6
        clear HO_7
        clear BK275
        clear HB
        have HO_6 := n0_
        have HO_7 := n1_
        have BK275 := n2_
        have HB := n3_
        clear n0_ n1_ n2_ n3_
        refine start_ (n := 17) (S := fun w' => w'.cell? ⟨gb275, 0, none⟩ = some (.slice A0_0 l0_0.length c0_0) ∧ w'.cell? ⟨gb275, 1, none⟩ = some (.slice A0_1 l0_1.length c0_1)) (ds := []) (bm 17 0) qz rfl rfl ⟨(blk_cell BK275.out 0).trans rfl, (blk_cell BK275.out 1).trans rfl⟩ (fun hHeld => ?_); refine with_tabW dancestudioref43_Path.tab8 dancestudioref43_Path.bits8 (fun HT_ HW_ => ?_)
        generalize wr.drew = w39 at HO_6 HO_7 BK275 HB hHeld ⊢
        refine pa (i := 0) (N := some 25) (bm 17 1) HT_ ?_
        refine pa (i := 1) (N := some 26) (bm 17 3) HT_ ?_
        refine pa (i := 2) (N := some 27) (bm 17 7) HT_ ?_
        refine pa (i := 3) (N := some 28) (bm 17 15) HT_ ?_
        refine pa (i := 4) (N := some 29) (bm 17 31) HT_ ?_
        refine pa (i := 5) (N := some 30) (bm 17 63) HT_ ?_
        refine pa (i := 6) (N := some 31) (bm 17 127) HT_ ?_
        refine pa (i := 7) (N := some 32) (bm 17 255) HT_ ?_
        refine pa (i := 9) (N := some 34) (bm 17 767) HT_ ?_
        refine pa (i := 10) (N := some 35) (bm 17 1791) HT_ ?_
        refine pa (i := 13) (N := some 38) (bm 17 9983) HT_ ?_
        refine take_ (i := 8) (N := some 33) (v := ?_) (a' := ?_) (bm 17 10239) rfl rfl (take_ofW HT_.out HW_.out qz) iz (Or.inl ⟨by rfl, ?_⟩) hHeld ?_ ?_
        rotate_left
        ·
         rintro w' ⟨s0, s1⟩
         go_simp
         with_reducible rfl
        rotate_left
        ·
         simp only [Act.put, aS, lZ, lS, i64_w, i32_w]
         rfl
        refine take_ (i := 12) (N := some 37) (v := ?_) (a' := ?_) (bm 17 14335) rfl rfl (take_ofW HT_.out HW_.out qz) iz (Or.inl ⟨by rfl, ?_⟩) hHeld ?_ ?_
        rotate_left
        ·
         rintro w' ⟨s0, s1⟩
         go_simp
         with_reducible rfl
        rotate_left
        ·
         simp only [Act.put, aS, lZ, lS, i64_w, i32_w]
         rfl
        refine one_ (i := 11) (N := some 36) (bm 17 16383) rfl rfl (one_of HT_.out qz) (by decide) (fun K hK => ?_)
        refine goes_ Try.func29 qz rfl #[.agg #[.slice A0_0 l0_0.length c0_0, .slice A0_1 l0_1.length c0_1], .int .i64 (wrap64 (x9_1 - 1))] (by rfl) rfl rfl mz ?_
        with_reducible refine (dancestudioref43_step.calls _ _ l0_0 _ _ l0_1 (wrap64 (x9_1 - 1)) t297 t298 _ ?side1 ?side2 ?side3 ?side4 A32.out).mono ?_
        (case side1 => exact cz HR0_0)
        (case side2 => exact HC0_0.out)
        (case side3 => exact cz HR0_1)
        (case side4 => exact HC0_1.out)
        rintro e w40 ⟨rfl, hb⟩
        refine ⟨_, rfl, ?_⟩
        have n0_ := am (Kd.R_below (rz HO_6) hb)
        have n1_ := am (Kd.R_below (rz HO_7) hb)
        have n2_ := am (blk_below (o := .cells #[.slice A0_0 l0_0.length c0_0, .slice A0_1 l0_1.length c0_1] 25 (0, 0)) (kz BK275) hb)
        have n3_ := am (below_step bz hb)
        clear HO_6
        clear HO_7
        clear BK275
        clear HB
        have HO_6 := n0_
        have HO_7 := n1_
        have BK275 := n2_
        have HB := n3_
        clear n0_ n1_ n2_ n3_
        (try clear hb)
        (try clear hb2)
        (try clear hk)
        (try clear hi)
        refine hK.out _ _ ⟨(blk_cell BK275.out 0).trans rfl, (blk_cell BK275.out 1).trans rfl⟩ (fun hHeld => ?_)
        clear hK K
        refine norm_ (a' := ?_) ?_ ?_
        rotate_left
        ·
         show Act.put _ (some 36) _ = _
         simp only [Act.put, aS, lZ, lS, i64_w, i32_w]
         rfl
        refine one_ (i := 14) (N := some 39) (bm 17 32767) rfl rfl (one_of HT_.out qz) (by decide) (fun K hK => ?_)
        refine goes_ Try.func29 qz rfl #[.agg #[.slice A0_0 l0_0.length c0_0, .slice A0_1 l0_1.length c0_1], .int .i64 x9_1] (by rfl) rfl rfl mz ?_
        with_reducible refine (dancestudioref43_step.calls _ _ l0_0 _ _ l0_1 x9_1 t299 t300 _ ?side1 ?side2 ?side3 ?side4 A33.out).mono ?_
        (case side1 => exact cz HR0_0)
        (case side2 => exact HC0_0.out)
        (case side3 => exact cz HR0_1)
        (case side4 => exact HC0_1.out)
        rintro e w41 ⟨rfl, hb⟩
        refine ⟨_, rfl, ?_⟩
        have n0_ := am (Kd.R_below (rz HO_6) hb)
        have n1_ := am (Kd.R_below (rz HO_7) hb)
        have n2_ := am (blk_below (o := .cells #[.slice A0_0 l0_0.length c0_0, .slice A0_1 l0_1.length c0_1] 25 (0, 0)) (kz BK275) hb)
        have n3_ := am (below_step bz hb)
        clear HO_6
        clear HO_7
        clear BK275
        clear HB
        have HO_6 := n0_
        have HO_7 := n1_
        have BK275 := n2_
        have HB := n3_
        clear n0_ n1_ n2_ n3_
        (try clear hb)
        (try clear hb2)
        (try clear hk)
        (try clear hi)
        refine hK.out _ _ ⟨(blk_cell BK275.out 0).trans rfl, (blk_cell BK275.out 1).trans rfl⟩ (fun hHeld => ?_)
        clear hK K
        refine norm_ (a' := ?_) ?_ ?_
        rotate_left
        ·
         show Act.put _ (some 39) _ = _
         simp only [Act.put, aS, lZ, lS, i64_w, i32_w]
         rfl
        refine pa (i := 15) (N := some 40) (bm 17 65535) HT_ ?_
        refine pa (i := 16) (N := some 41) (bm 17 131071) HT_ ?_
        refine done_ (done_of HT_.out qz) ?_
        obtain ⟨hcz42_0, hcz42_1, hfz42_0, hfz42_1⟩ := kc2 BK275.out
        have p301 : 0 ≤ (x9_1 : Int) := az
        have q301 : x9_1 < (l0_0.length : Int) := az
        obtain ⟨ad301, e301, hx301_0, hx301_1, _, _, _, _, _, _, _, _, _, _, _, _, _, _, _, _, _, _, _, _⟩ := at_T53 HR0_0.out x9_1 p301 q301
        cases e301
        replace hx301_0 := cb HB.out hx301_0
        replace hx301_1 := cb HB.out hx301_1
        replace p301 := eq_true p301
        replace q301 := eq_true q301
        try go_wp2_with (first | ((with_reducible refine gate_builtin (b := .append) (xs := #[.tmp 42, .tmp 49]) rfl ?_); at_builtin; refine Kd.R_append k35 (w0 := w) w.heap.size rfl (.tmp 42) (.tmp 49) 28 35 (.agg #[(.int .i64 0), (.int .i64 0)]) 16 rfl Try.underlying28 info35 rfl (by decide) (by omega) u6 x6_1 (⟨(rd_T53 l0_0 x9_1).f0.f0, (rd_T53 l0_0 x9_1).f0.f1⟩ : S35) [.int .i64 ((rd_T53 l0_0 x9_1).f0.f0), .int .i64 ((rd_T53 l0_0 x9_1).f0.f1)] (fun _ => True) (fun _ => False) rfl rfl ?aP (fun _ hk => hk.elim) ?aF ?aO ?aB ?aS ?aL ?_; (case aP => exact k35_mkM _ _ _ (⟨(rd_T53 l0_0 x9_1).f0.f0, (rd_T53 l0_0 x9_1).f0.f1⟩ : S35)); (case aB => exact bz); (case aF => exact (fun _ _ => trivial)); (case aO => exact (rz HO_6)); (case aS => exact (below_size bz)); (case aL => have := LMc37.out; omega); intro v303 w43 ho hb hg hat; rw [← Ny302.out] at ho; replace HO_7 := am (Kd.R_over' (rz HO_7) (Kd.R_typed (rz HO_6)) (by decide) hg); replace BK275 := am (blk_grown (g := gb275) (o := .cells #[.slice (some ad301) l0_0.length c0_0, .slice A0_1 l0_1.length c0_1] 25 (0, 0)) (kz BK275) hg (Kd.R_ne HO_6.out BK275.out (by decide))); replace HB := am (hb); have HO304 := am (ho); clear HO_6; clear ho hb hg hat) | ((with_reducible refine gate_builtin (b := .append) (xs := #[.tmp 51, .tmp 53]) rfl ?_); at_builtin; refine Kd.R_append (Kd.int .i64) (w0 := w) w.heap.size rfl (.tmp 51) (.tmp 53) 23 3 (.int .i64 0) 8 rfl Try.underlying23 info3 rfl (by decide) (by omega) u7 x7_1 x9_1 [.int .i64 x9_1] (fun _ => True) (fun _ => False) rfl rfl ?aP (fun _ hk => hk.elim) ?aF ?aO ?aB ?aS ?aL ?_; (case aP => exact rfl); (case aB => exact bz); (case aF => exact (fun _ _ => trivial)); (case aO => exact (rz HO_7)); (case aS => exact (below_size bz)); (case aL => have := LMc38.out; omega); intro v306 w44 ho hb hg hat; rw [← Ny305.out] at ho; replace BK275 := am (blk_grown (g := gb275) (o := .cells #[.slice (some ad301) l0_0.length c0_0, .slice A0_1 l0_1.length c0_1] 25 (0, 0)) (kz BK275) hg (Kd.R_ne HO_7.out BK275.out (by decide))); replace HO304 := am (Kd.R_over' (rz HO304) (Kd.R_typed (rz HO_7)) (by decide) hg); replace HB := am (hb); have HO307 := am (ho); clear HO_7; clear ho hb hg hat))
        go_roundg k1
        case measure => have := HK1.out; omega
        case rel => exact ⟨(y302), (y305), (wrap64 (x9_1 + 1)), sz, H', ⟨by have := HK1.out; omega⟩, ⟨rz HO304⟩, ⟨rz HO307⟩, ⟨kz BK275⟩, ⟨bz⟩⟩
       ·
        rw [if_neg c34] at H
        have c34b0 : (!(t297 == t299) || (!(t298 == t300))) = false := by simpa using c34
        clear c34
        have H' := am H
        clear H
        try go_wp2
        have n0_ := am (Kd.R_drew HO_6.out)
        have n1_ := am (Kd.R_drew HO_7.out)
        have n2_ := am (blk_drew BK275.out)
        have n3_ := am (below_drew1 HB.out)
        clear HO_6
        clear HO_7
        clear BK275
        clear HB
        have HO_6 := n0_
        have HO_7 := n1_
        have BK275 := n2_
        have HB := n3_
        clear n0_ n1_ n2_ n3_
        refine start_ (n := 17) (S := fun w' => w'.cell? ⟨gb275, 0, none⟩ = some (.slice A0_0 l0_0.length c0_0) ∧ w'.cell? ⟨gb275, 1, none⟩ = some (.slice A0_1 l0_1.length c0_1)) (ds := []) (bm 17 0) qz rfl rfl ⟨(blk_cell BK275.out 0).trans rfl, (blk_cell BK275.out 1).trans rfl⟩ (fun hHeld => ?_); refine with_tabW dancestudioref43_Path.tab8 dancestudioref43_Path.bits8 (fun HT_ HW_ => ?_)
        generalize wr.drew = w45 at HO_6 HO_7 BK275 HB hHeld ⊢
        refine pa (i := 0) (N := some 25) (bm 17 1) HT_ ?_
        refine pa (i := 1) (N := some 26) (bm 17 3) HT_ ?_
        refine pa (i := 2) (N := some 27) (bm 17 7) HT_ ?_
        refine pa (i := 3) (N := some 28) (bm 17 15) HT_ ?_
        refine pa (i := 4) (N := some 29) (bm 17 31) HT_ ?_
        refine pa (i := 5) (N := some 30) (bm 17 63) HT_ ?_
        refine pa (i := 6) (N := some 31) (bm 17 127) HT_ ?_
        refine pa (i := 7) (N := some 32) (bm 17 255) HT_ ?_
        refine pa (i := 9) (N := some 34) (bm 17 767) HT_ ?_
        refine pa (i := 10) (N := some 35) (bm 17 1791) HT_ ?_
        refine pa (i := 13) (N := some 38) (bm 17 9983) HT_ ?_
        refine take_ (i := 8) (N := some 33) (v := ?_) (a' := ?_) (bm 17 10239) rfl rfl (take_ofW HT_.out HW_.out qz) iz (Or.inl ⟨by rfl, ?_⟩) hHeld ?_ ?_
        rotate_left
        ·
         rintro w' ⟨s0, s1⟩
         go_simp
         with_reducible rfl
        rotate_left
        ·
         simp only [Act.put, aS, lZ, lS, i64_w, i32_w]
         rfl
        refine take_ (i := 12) (N := some 37) (v := ?_) (a' := ?_) (bm 17 14335) rfl rfl (take_ofW HT_.out HW_.out qz) iz (Or.inl ⟨by rfl, ?_⟩) hHeld ?_ ?_
        rotate_left
        ·
         rintro w' ⟨s0, s1⟩
         go_simp
         with_reducible rfl
        rotate_left
        ·
         simp only [Act.put, aS, lZ, lS, i64_w, i32_w]
         rfl
        refine one_ (i := 11) (N := some 36) (bm 17 16383) rfl rfl (one_of HT_.out qz) (by decide) (fun K hK => ?_)
        refine goes_ Try.func29 qz rfl #[.agg #[.slice A0_0 l0_0.length c0_0, .slice A0_1 l0_1.length c0_1], .int .i64 (wrap64 (x9_1 - 1))] (by rfl) rfl rfl mz ?_
        with_reducible refine (dancestudioref43_step.calls _ _ l0_0 _ _ l0_1 (wrap64 (x9_1 - 1)) t297 t298 _ ?side1 ?side2 ?side3 ?side4 A32.out).mono ?_
        (case side1 => exact cz HR0_0)
        (case side2 => exact HC0_0.out)
        (case side3 => exact cz HR0_1)
        (case side4 => exact HC0_1.out)
        rintro e w46 ⟨rfl, hb⟩
        refine ⟨_, rfl, ?_⟩
        have n0_ := am (Kd.R_below (rz HO_6) hb)
        have n1_ := am (Kd.R_below (rz HO_7) hb)
        have n2_ := am (blk_below (o := .cells #[.slice A0_0 l0_0.length c0_0, .slice A0_1 l0_1.length c0_1] 25 (0, 0)) (kz BK275) hb)
        have n3_ := am (below_step bz hb)
        clear HO_6
        clear HO_7
        clear BK275
        clear HB
        have HO_6 := n0_
        have HO_7 := n1_
        have BK275 := n2_
        have HB := n3_
        clear n0_ n1_ n2_ n3_
        (try clear hb)
        (try clear hb2)
        (try clear hk)
        (try clear hi)
        refine hK.out _ _ ⟨(blk_cell BK275.out 0).trans rfl, (blk_cell BK275.out 1).trans rfl⟩ (fun hHeld => ?_)
        clear hK K
        refine norm_ (a' := ?_) ?_ ?_
        rotate_left
        ·
         show Act.put _ (some 36) _ = _
         simp only [Act.put, aS, lZ, lS, i64_w, i32_w]
         rfl
        refine one_ (i := 14) (N := some 39) (bm 17 32767) rfl rfl (one_of HT_.out qz) (by decide) (fun K hK => ?_)
        refine goes_ Try.func29 qz rfl #[.agg #[.slice A0_0 l0_0.length c0_0, .slice A0_1 l0_1.length c0_1], .int .i64 x9_1] (by rfl) rfl rfl mz ?_
        with_reducible refine (dancestudioref43_step.calls _ _ l0_0 _ _ l0_1 x9_1 t299 t300 _ ?side1 ?side2 ?side3 ?side4 A33.out).mono ?_
        (case side1 => exact cz HR0_0)
        (case side2 => exact HC0_0.out)
        (case side3 => exact cz HR0_1)
        (case side4 => exact HC0_1.out)
        rintro e w47 ⟨rfl, hb⟩
        refine ⟨_, rfl, ?_⟩
        have n0_ := am (Kd.R_below (rz HO_6) hb)
        have n1_ := am (Kd.R_below (rz HO_7) hb)
        have n2_ := am (blk_below (o := .cells #[.slice A0_0 l0_0.length c0_0, .slice A0_1 l0_1.length c0_1] 25 (0, 0)) (kz BK275) hb)
        have n3_ := am (below_step bz hb)
        clear HO_6
        clear HO_7
        clear BK275
        clear HB
        have HO_6 := n0_
        have HO_7 := n1_
        have BK275 := n2_
        have HB := n3_
        clear n0_ n1_ n2_ n3_
        (try clear hb)
        (try clear hb2)
        (try clear hk)
        (try clear hi)
        refine hK.out _ _ ⟨(blk_cell BK275.out 0).trans rfl, (blk_cell BK275.out 1).trans rfl⟩ (fun hHeld => ?_)
        clear hK K
        refine norm_ (a' := ?_) ?_ ?_
        rotate_left
        ·
         show Act.put _ (some 39) _ = _
         simp only [Act.put, aS, lZ, lS, i64_w, i32_w]
         rfl
        refine pa (i := 15) (N := some 40) (bm 17 65535) HT_ ?_
        refine pa (i := 16) (N := some 41) (bm 17 131071) HT_ ?_
        refine done_ (done_of HT_.out qz) ?_
        try go_wp2
        go_roundg k1
        case measure => have := HK1.out; omega
        case rel => exact ⟨(x6_1), (x7_1), (wrap64 (x9_1 + 1)), sz, H', ⟨by have := HK1.out; omega⟩, ⟨rz HO_6⟩, ⟨rz HO_7⟩, ⟨kz BK275⟩, ⟨bz⟩⟩
    ·
     rw [if_neg c13] at H
     have c13b0 := decide_eq_false c13
     clear c13
     simp only [Option.some.injEq, Prod.mk.injEq] at H
     obtain ⟨rfl, rfl, rfl⟩ := H
     go_wp2
     go_ret3
     exact ⟨_, _, ez, by (with_reducible repeat first | apply rA | apply rN | apply rD); exact HO_6.out, by (with_reducible repeat first | apply rA | apply rN | apply rD); exact HO_7.out, bz⟩
 ·
  rw [if_neg c3] at H
  have c3b0 : (t276 == 0) = false := beq_eq_false_iff_ne.mpr c3
  have c3b1 : (t276 != 0) = true := bne_iff_ne.mpr c3
  simp only [Option.some.injEq, Prod.mk.injEq] at H
  obtain ⟨rfl, rfl, rfl⟩ := H
  go_enter Try.func12, Try.ntmps12
  go_wp2_with (first | ((with_reducible refine gate_dst (N := 1) rfl ?_); refine box_event yz (N := 1) yz (cs := #[.slice A0_0 l0_0.length c0_0, .slice A0_1 l0_1.length c0_1]) (t := 25) gz ?_; intro gb275 hg w48 hbox hb; have BK275 := am (hbox); have GW275 := gwz (g := gb275) HB hg; have GE275 := GW275; replace HB := am (below_step bz hb); clear hb hbox hg; obtain ⟨hcz49_0, hcz49_1, hfz49_0, hfz49_1⟩ := kc2 BK275.out) | ((with_reducible refine gate_callee (f := 28) rfl ?_); refine goesL_ (some 11) rfl rfl Try.func28 qz rfl #[.agg #[.slice A0_0 l0_0.length c0_0, .slice A0_1 l0_1.length c0_1]] rfl mz ?_; (with_reducible refine (dancestudioref29_Check.calls k _ _ l0_0 _ _ l0_1 t276 _ ?side1 ?side2 ?side3 ?side4 A2.out).mono ?_); (case side1 => exact cz HR0_0); (case side2 => exact HC0_0.out); (case side3 => exact cz HR0_1); (case side4 => exact HC0_1.out); rintro e w50 ⟨rfl, hb⟩; refine ⟨_, rfl, ?_⟩; replace BK275 := am (blk_below (o := .cells #[.slice A0_0 l0_0.length c0_0, .slice A0_1 l0_1.length c0_1] 25 (0, 0)) (kz BK275) hb); replace HB := am (below_step bz hb); (try clear hb); (try clear hb2); (try clear hk); (try clear hi)))
  go_ret3
  exact ⟨_, _, ez, by first | exact Kd.R_nil _ _ _ _ _ | exact Kd.N_nil _ _ _ _ _ | exact Kd.V_nil _ _ _ _ _ | exact Kd.Q_nil _ _ _ _ _ | exact Kd.S_nil _ _ _ _ _, by first | exact Kd.R_nil _ _ _ _ _ | exact Kd.N_nil _ _ _ _ _ | exact Kd.V_nil _ _ _ _ _ | exact Kd.Q_nil _ _ _ _ _ | exact Kd.S_nil _ _ _ _ _, bz⟩

end Go.Proofs.Ytmdmajfgpmopbaa.X
