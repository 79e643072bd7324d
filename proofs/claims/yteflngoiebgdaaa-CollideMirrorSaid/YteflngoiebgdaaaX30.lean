import Derived.Test.YteflngoiebgdaaaX0
namespace Go.Proofs.Yteflngoiebgdaaa.X
open Go.RowKit YteflngoiebgdaaaW.PrintWords YteflngoiebgdaaaW.PrintLast YteflngoiebgdaaaW.PrintMore
attribute [local go_sem] max2_int min2_int max_two min_two max_three min_three max_four min_four
set_option linter.unusedVariables false
set_option linter.unusedSimpArgs false

/-! ### dancestudiolaw44_walk: function 47 -/
def dancestudiolaw44_walk.l0 : Nat → List (S49) → Int → List (S54) → List Int → Option ((List (S54)) × List Int)
 | 0, _, _, _, _ => none
 | k + 1, x0, x4, x225000, x225001 => if x4 < (x0.length : Int) then (if 0 ≤ x4 then (if x225000.length < 799644820200 then ((some (x225000 ++ [(⟨(⟨(rd_T49 x0 x4).f0, (rd_T49 x0 x4).f1⟩ : S49), 0, 0, (⟨(⟨0, 0, 0⟩ : S51), (⟨0, 0, 0⟩ : S51), (⟨0, 0, 0⟩ : S51), (⟨0, 0, 0⟩ : S51), (⟨0, 0, 0⟩ : S51), (⟨0, 0, 0⟩ : S51)⟩ : S52)⟩ : S54)] : List (S54))).bind fun y226 => (if x4 > 0 then (if x225001.length < 17592186044416 then (dancestudiolaw44_walk.l0 k x0 (wrap64 (x4 + 1)) y226 (x225001 ++ [1])) else (none)) else (dancestudiolaw44_walk.l0 k x0 (wrap64 (x4 + 1)) y226 x225001))) else (none)) else (none)) else (some (x225000, x225001))
def dancestudiolaw44_walk.f (k : Nat) (l0 : List (S49)) : Option ((List (S54)) × List Int) := dancestudiolaw44_walk.l0 k l0 0 ([] : List (S54)) ([] : List Int)
theorem dancestudiolaw44_walk.mono_l : ∀ k, (∀ y0 y1 y2 y3, LeO (dancestudiolaw44_walk.l0 k y0 y1 y2 y3) (dancestudiolaw44_walk.l0 (k + 1) y0 y1 y2 y3))
 | 0 => fun _ _ _ _ r h => by simp [dancestudiolaw44_walk.l0] at h
 | k + 1 => by
  have ih0 := dancestudiolaw44_walk.mono_l k
  ·
   intro y0 y1 y2 y3
   unfold dancestudiolaw44_walk.l0
   repeat' first
   | (with_reducible exact ih0 _ _ _ _)
   | (with_reducible exact LeO.refl _)
   | (with_reducible exact LeO.none _)
   | (with_reducible refine LeO.ite ?_ ?_)
   | (with_reducible refine LeO.bind ?_ (fun _ => ?_))
   | exact ih0 _ _ _ _
   | exact LeO.none _
   | refine LeO.ite ?_ ?_
   | refine LeO.bind ?_ (fun _ => ?_)
theorem dancestudiolaw44_walk.mono : ∀ a0 k, LeO (dancestudiolaw44_walk.f k a0) (dancestudiolaw44_walk.f (k + 1) a0) := by
 intro a0 k
 have ih0 := dancestudiolaw44_walk.mono_l k
 unfold dancestudiolaw44_walk.f
 repeat' first
   | (with_reducible exact ih0 _ _ _ _)
   | (with_reducible exact LeO.refl _)
   | (with_reducible exact LeO.none _)
   | (with_reducible refine LeO.ite ?_ ?_)
   | (with_reducible refine LeO.bind ?_ (fun _ => ?_))
   | exact ih0 _ _ _ _
   | exact LeO.none _
   | refine LeO.ite ?_ ?_
   | refine LeO.bind ?_ (fun _ => ?_)
def dancestudiolaw44_walk.T5 : Bool × List (List Nat × List Nat) := (true, [([], []), ([0], [0]), ([], []), ([], []), ([2, 3], [2, 3]), ([4], [4]), ([5], [5]), ([6], [6]), ([1, 7], [1, 7]), ([0, 1, 2, 3, 4, 5, 6, 7, 8], []), ([9, 8, 8, 0, 1, 2, 3, 4, 5, 6, 7, 8], [8, 9])])
def dancestudiolaw44_walk.B5 : List Nat := [0, 1, 0, 0, 12, 28, 60, 124, 255, 511, 1023]
theorem dancestudiolaw44_walk.tab5 : rtab .any (opsOf Try.f47 5) = dancestudiolaw44_walk.T5 := by kernel_rfl
theorem dancestudiolaw44_walk.bits5 : waitsOk dancestudiolaw44_walk.T5.2 dancestudiolaw44_walk.B5 = true := by kernel_rfl
set_option maxHeartbeats 8000000 in
set_option maxRecDepth 100000 in
theorem dancestudiolaw44_walk.calls (k : Nat) (A0 : Option Addr) (c0 : Nat) (l0 : List (S49)) (r1 : List (S54)) (r2 : List Int) (w : World) (hr0 : Kd.C k49 w A0 l0.length l0) (hc0 : l0.length ≤ c0) (h : dancestudiolaw44_walk.f k l0 = some (r1, r2)) :
  Calls Try.prog 47 #[.slice A0 l0.length c0] w fun e w' => ∃ v0_ v1_ : Value, e = .returned (.agg #[v0_, v1_]) ∧ Kd.R k54 54 w' w.heap.size (fun _ => True) v0_ r1 ∧ Kd.R (Kd.int .i64) 3 w' w.heap.size (fun _ => True) v1_ r2 ∧ Below w.heap.size w w' := by
 have hu43 := Try.underlying43
 have hu49 := Try.underlying49
 have hu54 := Try.underlying54
 have HR0 := am hr0
 have HC0 := am hc0
 clear hr0 hc0
 have HB := am (Below.refl w.heap.size w)
 have H : (dancestudiolaw44_walk.l0 k l0 0 ([] : List (S54)) ([] : List Int)) = some (r1, r2) := h
 clear h
 have H' := am H
 clear H
 go_enter Try.func47, Try.ntmps47
 go_wp2_with (first | ((with_reducible refine gate_dst (N := 2) rfl ?_); refine box_event yz (N := 2) yz (cs := #[.slice none 0 0, .slice none 0 0]) (t := 43) gz ?_; intro gb223 hg w2 hbox hb; have BK223 := am (hbox); have GW223 := gwz (g := gb223) HB hg; have GE223 := GW223; replace HB := am (below_step bz hb); clear hb hbox hg) | ((with_reducible refine gate_dst (N := 3) rfl ?_); refine box_event yz (N := 3) yz (cs := #[.slice none 0 0, .slice none 0 0]) (t := 43) gz ?_; intro gb224 hg w3 hbox hb; have BK224 := am (hbox); have GW224 := gwz (g := gb224) HB hg; have GE224 := GW224; replace HB := am (below_step bz hb); have NB223_224 := nlt (g' := gb224) BK223 hg; have NB224_223 := ngt (g' := gb224) BK223 hg; replace BK223 := am (blk_below (o := .cells #[.slice none 0 0, .slice none 0 0] 43 (0, 0)) (kz BK223) hb); clear hb hbox hg))
 go_loopg [4] k (fun kq v4 w' => ∃ (x4_1 : Int) (x225000_1 : List (S54)) (x225001_1 : List Int) (u225000 : Value) (u225001 : Value), v4 = .int .i64 x4_1 ∧ Aside0 (dancestudiolaw44_walk.l0 kq l0 x4_1 x225000_1 x225001_1 = some (r1, r2)) ∧ Aside0 (kq ≤ k) ∧ Aside0 (Kd.R k54 54 w' w.heap.size (fun _ => True) u225000 x225000_1) ∧ Aside0 (Kd.R (Kd.int .i64) 3 w' w.heap.size (fun _ => True) u225001 x225001_1) ∧ Aside0 (w'.heap[gb223]? = some (.cells #[(.slice none 0 0), (.slice none 0 0)] 43 (0, 0))) ∧ Aside0 (w'.heap[gb224]? = some (.cells #[u225000, u225001] 43 (0, 0))) ∧ Aside0 (Below w.heap.size w w'))
 case atStart => exact ⟨(0), (([] : List (S54))), (([] : List Int)), (.slice none 0 0), (.slice none 0 0), sz, H', ⟨Nat.le_refl _⟩, ⟨by first | exact Kd.R_nil _ _ _ _ _ | exact Kd.N_nil _ _ _ _ _ | exact Kd.V_nil _ _ _ _ _ | exact Kd.Q_nil _ _ _ _ _ | exact Kd.S_nil _ _ _ _ _⟩, ⟨by first | exact Kd.R_nil _ _ _ _ _ | exact Kd.N_nil _ _ _ _ _ | exact Kd.V_nil _ _ _ _ _ | exact Kd.Q_nil _ _ _ _ _ | exact Kd.S_nil _ _ _ _ _⟩, ⟨kz BK223⟩, ⟨kz BK224⟩, ⟨bz⟩⟩
 case round =>
  clear H'
  try clear p2
  obtain ⟨x4_1, x225000_1, x225001_1, u225000, u225001, rfl, HA, HK1, HO_225000, HO_225001, BK223, BK224, HB⟩ := hrel
  cases gk with
  | zero => exact absurd HA.out (by simp [dancestudiolaw44_walk.l0])
  | succ k1 =>
   have H := HA.out
   clear HA
   simp only [dancestudiolaw44_walk.l0] at H
   by_cases c4 : x4_1 < (l0.length : Int)
   ·
    rw [if_pos c4] at H
    have c4b0 := decide_eq_true c4
    clear c4
    by_cases c5 : 0 ≤ x4_1; rotate_left
    · rw [if_neg c5] at H; exact absurd H (by simp)
    rw [if_pos c5] at H
    have c5b0 := decide_eq_true c5
    clear c5
    by_cases c6 : x225000_1.length < 799644820200; rotate_left
    · rw [if_neg c6] at H; exact absurd H (by simp)
    rw [if_pos c6] at H
    have LMc6 := am c6
    clear c6
    obtain ⟨y226, hy226⟩ : ∃ y_ : List (S54), y_ = (x225000_1 ++ [(⟨(⟨(rd_T49 l0 x4_1).f0, (rd_T49 l0 x4_1).f1⟩ : S49), 0, 0, (⟨(⟨0, 0, 0⟩ : S51), (⟨0, 0, 0⟩ : S51), (⟨0, 0, 0⟩ : S51), (⟨0, 0, 0⟩ : S51), (⟨0, 0, 0⟩ : S51), (⟨0, 0, 0⟩ : S51)⟩ : S52)⟩ : S54)]) := ⟨_, rfl⟩
    replace H : (if x4_1 > 0 then (if x225001_1.length < 17592186044416 then (dancestudiolaw44_walk.l0 k1 l0 (wrap64 (x4_1 + 1)) y226 (x225001_1 ++ [1])) else (none)) else (dancestudiolaw44_walk.l0 k1 l0 (wrap64 (x4_1 + 1)) y226 x225001_1)) = some (r1, r2) := by first | (rw [hy226]; with_reducible exact H) | (have H2_ := (Option.bind_some _ _).symm.trans H; rw [hy226]; with_reducible exact H2_) | (have H2_ := (Option.bind_some _ _).symm.trans H; with_reducible exact H2_) | with_reducible exact H | (rw [hy226]; exact H) | exact H
    have Ny226 := am hy226
    clear hy226
    by_cases c7 : x4_1 > 0
    ·
     rw [if_pos c7] at H
     have c7b0 := decide_eq_true c7
     clear c7
     by_cases c8 : x225001_1.length < 17592186044416; rotate_left
     · rw [if_neg c8] at H; exact absurd H (by simp)
     rw [if_pos c8] at H
     have LMc8 := am c8
     clear c8
     obtain ⟨y229, hy229⟩ : ∃ y_ : List Int, y_ = (x225001_1 ++ [1]) := ⟨_, rfl⟩
     replace H : (dancestudiolaw44_walk.l0 k1 l0 (wrap64 (x4_1 + 1)) y226 y229) = some (r1, r2) := by first | (rw [hy229]; with_reducible exact H) | (have H2_ := (Option.bind_some _ _).symm.trans H; rw [hy229]; with_reducible exact H2_) | (have H2_ := (Option.bind_some _ _).symm.trans H; with_reducible exact H2_) | with_reducible exact H | (rw [hy229]; exact H) | exact H
     have Ny229 := am hy229
     clear hy229
     have H' := am H
     clear H
     try go_wp2
     have n0_ := am (Kd.R_drew HO_225000.out)
     have n1_ := am (Kd.R_drew HO_225001.out)
     have n2_ := am (blk_drew BK223.out)
     have n3_ := am (blk_drew BK224.out)
     have n4_ := am (below_drew1 HB.out)
     clear HO_225000
     clear HO_225001
     clear BK223
     clear BK224
     clear HB
     have HO_225000 := n0_
     have HO_225001 := n1_
     have BK223 := n2_
     have BK224 := n3_
     have HB := n4_
     clear n0_ n1_ n2_ n3_ n4_
     have p225 : 0 ≤ (x4_1 : Int) := az
     have q225 : x4_1 < (l0.length : Int) := az
     obtain ⟨ad225, e225, hx225_0, hx225_1⟩ := at_T49 HR0.out x4_1 p225 q225
     have hw225_1 := hx225_1
     have hw225_0 := hx225_0
     cases e225
     replace hx225_0 := cb HB.out hx225_0
     replace hx225_1 := cb HB.out hx225_1
     replace p225 := eq_true p225
     replace q225 := eq_true q225
     refine start_ (n := 11) (S := fun w' => w'.cell? ⟨gb224, 0, none⟩ = some (u225000) ∧ w'.cell? ⟨gb224, 1, none⟩ = some (u225001) ∧ w'.cell? (ad225.add ((x4_1).toNat * 2)) = some (.int .i64 ((rd_T49 l0 x4_1).f0)) ∧ w'.cell? ⟨(ad225.add ((x4_1).toNat * 2)).block, (ad225.add ((x4_1).toNat * 2)).off + 1, none⟩ = some (.int .i64 ((rd_T49 l0 x4_1).f1))) (ds := [10]) (bm 11 0) qz rfl rfl ⟨(blk_cell BK224.out 0).trans rfl, (blk_cell BK224.out 1).trans rfl, (cb HB.out hw225_0), (cb HB.out hw225_1)⟩ (fun hHeld => ?_); refine with_tabW dancestudiolaw44_walk.tab5 dancestudiolaw44_walk.bits5 (fun HT_ HW_ => ?_)
     generalize wr.drew = w9 at HO_225000 HO_225001 BK223 BK224 HB hx225_0 hx225_1 hHeld ⊢
     refine pa (i := 0) (N := some 11) (bm 11 1) HT_ ?_
     refine pa (i := 2) (N := some 13) (bm 11 5) HT_ ?_
     refine pa (i := 3) (N := some 14) (bm 11 13) HT_ ?_
     refine pa (i := 4) (N := some 15) (bm 11 29) HT_ ?_
     refine take_ (i := 1) (N := some 12) (v := ?_) (a' := ?_) (bm 11 31) rfl rfl (take_ofW HT_.out HW_.out qz) iz (Or.inl ⟨by rfl, ?_⟩) hHeld ?_ ?_
     rotate_left
     ·
      rintro w' ⟨s0, s1, s2, s3⟩
      go_simp
      with_reducible rfl
     rotate_left
     ·
      simp only [Act.put, aS, lZ, lS, i64_w, i32_w]
      rfl
     refine take_ (i := 5) (N := some 16) (v := ?_) (a' := ?_) (bm 11 63) rfl rfl (take_ofW HT_.out HW_.out qz) iz (Or.inl ⟨by rfl, ?_⟩) hHeld ?_ ?_
     rotate_left
     ·
      rintro w' ⟨s0, s1, s2, s3⟩
      go_simp
      with_reducible rfl
     rotate_left
     ·
      simp only [Act.put, aS, lZ, lS, i64_w, i32_w]
      rfl
     refine pa (i := 6) (N := some 17) (bm 11 127) HT_ ?_
     refine one_ (i := 7) (N := some 18) (bm 11 255) rfl rfl (one_of HT_.out qz) (by decide) (fun K hK => ?_)
     refine value_ (w1 := ?_) (v := ?_) (by rfl) rfl ?_ ?_
     rotate_left 2
     ·
      go_simp
      constructor
      ·
       rfl
      ·
       rfl
     refine hK.out _ _ ⟨(blk_cell (blk_alloc BK224.out _) 0).trans rfl, (blk_cell (blk_alloc BK224.out _) 1).trans rfl, (World.cell?_alloc_lt _ _ _ (World.block_lt_of_cell? _ _ ((cb HB.out hw225_0)))).trans ((cb HB.out hw225_0)), (World.cell?_alloc_lt _ _ _ (World.block_lt_of_cell? _ _ ((cb HB.out hw225_1)))).trans ((cb HB.out hw225_1))⟩ (fun hHeld => ?_)
     clear hK K
     refine norm_ (a' := ?_) ?_ ?_
     rotate_left
     ·
      show Act.put _ (some 18) _ = _
      simp only [Act.put, aS, lZ, lS, i64_w, i32_w]
      rfl
     refine one_ (i := 8) (N := some 19) (bm 11 511) rfl rfl (one_of HT_.out qz) (by decide) (fun K hK => ?_)
     refine Kd.R_append_step k54 (w0 := w) w.heap.size (by rfl) (.tmp 12) (.tmp 18) 41 54 (.agg #[(.int .i64 0), (.int .i64 0), (.int .i64 0), (.int .i64 0), (.int .i64 0), (.int .i64 0), (.int .i64 0), (.int .i64 0), (.int .i64 0), (.int .i64 0), (.int .i64 0), (.int .i64 0), (.int .i64 0), (.int .i64 0), (.int .i64 0), (.int .i64 0), (.int .i64 0), (.int .i64 0), (.int .i64 0), (.int .i64 0), (.int .i64 0), (.int .i64 0)]) 176 rfl Try.underlying41 info54 rfl (by decide) (by omega) u225000 x225000_1 (⟨(⟨(rd_T49 l0 x4_1).f0, (rd_T49 l0 x4_1).f1⟩ : S49), 0, 0, (⟨(⟨0, 0, 0⟩ : S51), (⟨0, 0, 0⟩ : S51), (⟨0, 0, 0⟩ : S51), (⟨0, 0, 0⟩ : S51), (⟨0, 0, 0⟩ : S51), (⟨0, 0, 0⟩ : S51)⟩ : S52)⟩ : S54) [.int .i64 ((rd_T49 l0 x4_1).f0), .int .i64 ((rd_T49 l0 x4_1).f1), .int .i64 0, .int .i64 0, .int .i64 0, .int .i64 0, .int .i64 0, .int .i64 0, .int .i64 0, .int .i64 0, .int .i64 0, .int .i64 0, .int .i64 0, .int .i64 0, .int .i64 0, .int .i64 0, .int .i64 0, .int .i64 0, .int .i64 0, .int .i64 0, .int .i64 0, .int .i64 0] (fun _ => True) (fun _ => False) rfl rfl ?aP (fun _ hk => hk.elim) ?aF ?aO ?aB ?aS ?aL ?_
     (case aP => exact k54_mkM _ _ _ (⟨(⟨(rd_T49 l0 x4_1).f0, (rd_T49 l0 x4_1).f1⟩ : S49), 0, 0, (⟨(⟨0, 0, 0⟩ : S51), (⟨0, 0, 0⟩ : S51), (⟨0, 0, 0⟩ : S51), (⟨0, 0, 0⟩ : S51), (⟨0, 0, 0⟩ : S51), (⟨0, 0, 0⟩ : S51)⟩ : S52)⟩ : S54))
     (case aB => exact bz)
     (case aF => exact (fun _ _ => trivial))
     (case aO => exact (rz HO_225000))
     (case aS => exact (below_size bz))
     (case aL => have := LMc6.out; omega)
     intro v227 w10 ho hb hg hat
     rw [← Ny226.out] at ho
     have n0_ := am (Kd.R_over' (rz HO_225001) (Kd.R_typed (rz HO_225000)) (by decide) hg)
     have n1_ := am (blk_grown (g := gb223) (o := .cells #[.slice none 0 0, .slice none 0 0] 43 (0, 0)) (kz BK223) hg (Kd.R_ne HO_225000.out BK223.out (by decide)))
     have n2_ := am (blk_grown (g := gb224) (o := .cells #[u225000, u225001] 43 (0, 0)) (kz BK224) hg (Kd.R_ne HO_225000.out BK224.out (by decide)))
     have n3_ := am (hb)
     have n4_ := am (ho)
     clear HO_225001
     clear BK223
     clear BK224
     clear HB
     clear HO_225000
     have HO_225001 := n0_
     have BK223 := n1_
     have BK224 := n2_
     have HB := n3_
     have HO228 := n4_
     clear n0_ n1_ n2_ n3_ n4_
     clear ho hb hg hat
     obtain ⟨Ao11, co11, eo11⟩ := Kd.R_slice HO228.out
     (first | subst eo11 | (injection eo11 with f1_ f2_ f3_; have f4_ := f1_.symm; have f5_ := f3_.symm; clear f1_ f2_ f3_; subst f4_; subst f5_))
     refine hK.out _ _ ⟨(blk_cell BK224.out 0).trans rfl, (blk_cell BK224.out 1).trans rfl, (cb HB.out hw225_0), (cb HB.out hw225_1)⟩ (fun hHeld => ?_)
     clear hK K
     refine norm_ (a' := ?_) ?_ ?_
     rotate_left
     ·
      show Act.put _ (some 19) _ = _
      simp only [Act.put, aS, lZ, lS, i64_w, i32_w]
      rfl
     refine pa (i := 9) (N := some 20) (bm 11 1023) HT_ ?_
     refine last_ (i := 10) (N := none) (bm 11 2047) rfl rfl (one_of HT_.out qz) (by decide) (fun K hK => ?_)
     have hs12 : w10.cell? ⟨gb224, 0, none⟩ = some (u225000) := (blk_cell BK224.out 0).trans rfl
     have hfs12 := blk_frozen BK224.out 0
     have hns12_0 := NB223_224.out
     have hms12_0 := NB224_223.out
     refine skip_ (w1 := ?_) (by rfl) rfl ?_ ?_
     rotate_left
     ·
      go_simp
      rfl
     refine hK.out _ _ ?_
     clear hK K
     refine done_ (done_of HT_.out qz) ?_
     have hnb13 := NB224_223.out
     have hnc13 := NB223_224.out
     obtain ⟨hcz14_0, hcz14_1, hfz14_0, hfz14_1⟩ := kc2 BK224.out
     try go_wp2_with (first | ((with_reducible refine gate_builtin (b := .append) (xs := #[.tmp 24, .tmp 25]) rfl ?_); at_builtin; refine Kd.R_append (Kd.int .i64) (w0 := w) w.heap.size rfl (.tmp 24) (.tmp 25) 23 3 (.int .i64 0) 8 rfl Try.underlying23 info3 rfl (by decide) (by omega) u225001 x225001_1 1 [.int .i64 1] (fun _ => True) (fun _ => False) rfl (by first | (go_simp; done) | (go_simp; rfl)) ?aP (fun _ hk => hk.elim) ?aF ?aO ?aB ?aS ?aL ?_; (case aP => exact rfl); (case aB => exact bz); (case aF => exact (fun _ _ => trivial)); (case aO => exact (by (with_reducible repeat first | apply rA | apply rN | apply rD); exact Kd.R_mono (Kd.R_far (p := ⟨gb224, 0, none⟩) (Kd.R_types HO_225001.out BK224.out (by decide)) (fun _ hk => hk.2) (.slice Ao11 y226.length co11)) (fun _ hk => trivial))); (case aS => exact (below_size bz)); (case aL => have := LMc8.out; omega); intro v230 w15 ho hb hg hat; rw [← Ny229.out] at ho; replace BK223 := am (blk_grown (g := gb223) (o := .cells #[.slice none 0 0, .slice none 0 0] 43 (0, 0)) (by (with_reducible repeat first | apply kN | apply kD | apply kA); refine blk_far ?_ NB223_224.out _; (with_reducible repeat first | apply kN | apply kD | apply kA); exact BK223.out) hg (Kd.R_ne HO_225001.out BK223.out (by decide))); replace HO228 := am (Kd.R_over' (by (with_reducible repeat first | apply rA | apply rN | apply rD); exact (Kd.R_mono (Kd.R_far (p := ⟨gb224, 0, none⟩) (Kd.R_types HO228.out BK224.out (by decide)) (fun _ hk => hk.2) (.slice Ao11 y226.length co11)) (fun _ h_ => h_.1))) (Kd.R_typed (by (with_reducible repeat first | apply rA | apply rN | apply rD); exact (Kd.R_mono (Kd.R_far (p := ⟨gb224, 0, none⟩) (Kd.R_types HO_225001.out BK224.out (by decide)) (fun _ hk => hk.2) (.slice Ao11 y226.length co11)) (fun _ h_ => h_.1)))) (by decide) hg); replace BK224 := am (blk_grown (g := gb224) (o := .cells #[.slice Ao11 y226.length co11, u225001] 43 (0, 0)) (by (with_reducible repeat first | apply kN | apply kD | apply kA); refine blk_put (cs := #[u225000, u225001]) ?_ 0 _ rfl; (with_reducible repeat first | apply kN | apply kD | apply kA); exact BK224.out) hg (Kd.R_ne HO_225001.out BK224.out (by decide))); replace HB := am (hb); have HO231 := am (ho); clear HO_225001; clear ho hb hg hat; obtain ⟨Ao16, co16, eo16⟩ := Kd.R_slice HO231.out; subst eo16; obtain ⟨hcz17_0, hcz17_1, hfz17_0, hfz17_1⟩ := kc2 BK224.out))
     go_roundg k1
     case measure => have := HK1.out; omega
     case rel => exact ⟨(wrap64 (x4_1 + 1)), (y226), (y229), (.slice Ao11 y226.length co11), (.slice Ao16 y229.length co16), sz, H', ⟨by have := HK1.out; omega⟩, ⟨by (with_reducible repeat first | apply rA | apply rN | apply rD); exact Kd.R_mono (Kd.R_far (p := ⟨gb224, 1, none⟩) (Kd.R_types HO228.out BK224.out (by decide)) (fun _ hk => hk.2) (.slice Ao16 y229.length co16)) (fun _ hk => trivial)⟩, ⟨by (with_reducible repeat first | apply rA | apply rN | apply rD); exact Kd.R_mono (Kd.R_far (p := ⟨gb224, 1, none⟩) (Kd.R_types HO231.out BK224.out (by decide)) (fun _ hk => hk.2) (.slice Ao16 y229.length co16)) (fun _ hk => trivial)⟩, ⟨by (with_reducible repeat first | apply kN | apply kD | apply kA); refine blk_far ?_ NB223_224.out _; (with_reducible repeat first | apply kN | apply kD | apply kA); exact BK223.out⟩, ⟨by (with_reducible repeat first | apply kN | apply kD | apply kA); refine blk_put (cs := #[.slice Ao11 y226.length co11, u225001]) ?_ 1 _ rfl; (with_reducible repeat first | apply kN | apply kD | apply kA); exact BK224.out⟩, ⟨bz⟩⟩
    ·
     rw [if_neg c7] at H
     have c7b0 := decide_eq_false c7
     clear c7
     have H' := am H
     clear H
     try go_wp2
     have n0_ := am (Kd.R_drew HO_225000.out)
     have n1_ := am (Kd.R_drew HO_225001.out)
     have n2_ := am (blk_drew BK223.out)
     have n3_ := am (blk_drew BK224.out)
     have n4_ := am (below_drew1 HB.out)
     clear HO_225000
     clear HO_225001
     clear BK223
     clear BK224
     clear HB
     have HO_225000 := n0_
     have HO_225001 := n1_
     have BK223 := n2_
     have BK224 := n3_
     have HB := n4_
     clear n0_ n1_ n2_ n3_ n4_
     have p225 : 0 ≤ (x4_1 : Int) := az
     have q225 : x4_1 < (l0.length : Int) := az
     obtain ⟨ad225, e225, hx225_0, hx225_1⟩ := at_T49 HR0.out x4_1 p225 q225
     have hw225_1 := hx225_1
     have hw225_0 := hx225_0
     cases e225
     replace hx225_0 := cb HB.out hx225_0
     replace hx225_1 := cb HB.out hx225_1
     replace p225 := eq_true p225
     replace q225 := eq_true q225
     refine start_ (n := 11) (S := fun w' => w'.cell? ⟨gb224, 0, none⟩ = some (u225000) ∧ w'.cell? ⟨gb224, 1, none⟩ = some (u225001) ∧ w'.cell? (ad225.add ((x4_1).toNat * 2)) = some (.int .i64 ((rd_T49 l0 x4_1).f0)) ∧ w'.cell? ⟨(ad225.add ((x4_1).toNat * 2)).block, (ad225.add ((x4_1).toNat * 2)).off + 1, none⟩ = some (.int .i64 ((rd_T49 l0 x4_1).f1))) (ds := [10]) (bm 11 0) qz rfl rfl ⟨(blk_cell BK224.out 0).trans rfl, (blk_cell BK224.out 1).trans rfl, (cb HB.out hw225_0), (cb HB.out hw225_1)⟩ (fun hHeld => ?_); refine with_tabW dancestudiolaw44_walk.tab5 dancestudiolaw44_walk.bits5 (fun HT_ HW_ => ?_)
     generalize wr.drew = w18 at HO_225000 HO_225001 BK223 BK224 HB hx225_0 hx225_1 hHeld ⊢
     refine pa (i := 0) (N := some 11) (bm 11 1) HT_ ?_
     refine pa (i := 2) (N := some 13) (bm 11 5) HT_ ?_
     refine pa (i := 3) (N := some 14) (bm 11 13) HT_ ?_
     refine pa (i := 4) (N := some 15) (bm 11 29) HT_ ?_
     refine take_ (i := 1) (N := some 12) (v := ?_) (a' := ?_) (bm 11 31) rfl rfl (take_ofW HT_.out HW_.out qz) iz (Or.inl ⟨by rfl, ?_⟩) hHeld ?_ ?_
     rotate_left
     ·
      rintro w' ⟨s0, s1, s2, s3⟩
      go_simp
      with_reducible rfl
     rotate_left
     ·
      simp only [Act.put, aS, lZ, lS, i64_w, i32_w]
      rfl
     refine take_ (i := 5) (N := some 16) (v := ?_) (a' := ?_) (bm 11 63) rfl rfl (take_ofW HT_.out HW_.out qz) iz (Or.inl ⟨by rfl, ?_⟩) hHeld ?_ ?_
     rotate_left
     ·
      rintro w' ⟨s0, s1, s2, s3⟩
      go_simp
      with_reducible rfl
     rotate_left
     ·
      simp only [Act.put, aS, lZ, lS, i64_w, i32_w]
      rfl
     refine pa (i := 6) (N := some 17) (bm 11 127) HT_ ?_
     refine one_ (i := 7) (N := some 18) (bm 11 255) rfl rfl (one_of HT_.out qz) (by decide) (fun K hK => ?_)
     refine value_ (w1 := ?_) (v := ?_) (by rfl) rfl ?_ ?_
     rotate_left 2
     ·
      go_simp
      constructor
      ·
       rfl
      ·
       rfl
     refine hK.out _ _ ⟨(blk_cell (blk_alloc BK224.out _) 0).trans rfl, (blk_cell (blk_alloc BK224.out _) 1).trans rfl, (World.cell?_alloc_lt _ _ _ (World.block_lt_of_cell? _ _ ((cb HB.out hw225_0)))).trans ((cb HB.out hw225_0)), (World.cell?_alloc_lt _ _ _ (World.block_lt_of_cell? _ _ ((cb HB.out hw225_1)))).trans ((cb HB.out hw225_1))⟩ (fun hHeld => ?_)
     clear hK K
     refine norm_ (a' := ?_) ?_ ?_
     rotate_left
     ·
      show Act.put _ (some 18) _ = _
      simp only [Act.put, aS, lZ, lS, i64_w, i32_w]
      rfl
     refine one_ (i := 8) (N := some 19) (bm 11 511) rfl rfl (one_of HT_.out qz) (by decide) (fun K hK => ?_)
     refine Kd.R_append_step k54 (w0 := w) w.heap.size (by rfl) (.tmp 12) (.tmp 18) 41 54 (.agg #[(.int .i64 0), (.int .i64 0), (.int .i64 0), (.int .i64 0), (.int .i64 0), (.int .i64 0), (.int .i64 0), (.int .i64 0), (.int .i64 0), (.int .i64 0), (.int .i64 0), (.int .i64 0), (.int .i64 0), (.int .i64 0), (.int .i64 0), (.int .i64 0), (.int .i64 0), (.int .i64 0), (.int .i64 0), (.int .i64 0), (.int .i64 0), (.int .i64 0)]) 176 rfl Try.underlying41 info54 rfl (by decide) (by omega) u225000 x225000_1 (⟨(⟨(rd_T49 l0 x4_1).f0, (rd_T49 l0 x4_1).f1⟩ : S49), 0, 0, (⟨(⟨0, 0, 0⟩ : S51), (⟨0, 0, 0⟩ : S51), (⟨0, 0, 0⟩ : S51), (⟨0, 0, 0⟩ : S51), (⟨0, 0, 0⟩ : S51), (⟨0, 0, 0⟩ : S51)⟩ : S52)⟩ : S54) [.int .i64 ((rd_T49 l0 x4_1).f0), .int .i64 ((rd_T49 l0 x4_1).f1), .int .i64 0, .int .i64 0, .int .i64 0, .int .i64 0, .int .i64 0, .int .i64 0, .int .i64 0, .int .i64 0, .int .i64 0, .int .i64 0, .int .i64 0, .int .i64 0, .int .i64 0, .int .i64 0, .int .i64 0, .int .i64 0, .int .i64 0, .int .i64 0, .int .i64 0, .int .i64 0] (fun _ => True) (fun _ => False) rfl rfl ?aP (fun _ hk => hk.elim) ?aF ?aO ?aB ?aS ?aL ?_
     (case aP => exact k54_mkM _ _ _ (⟨(⟨(rd_T49 l0 x4_1).f0, (rd_T49 l0 x4_1).f1⟩ : S49), 0, 0, (⟨(⟨0, 0, 0⟩ : S51), (⟨0, 0, 0⟩ : S51), (⟨0, 0, 0⟩ : S51), (⟨0, 0, 0⟩ : S51), (⟨0, 0, 0⟩ : S51), (⟨0, 0, 0⟩ : S51)⟩ : S52)⟩ : S54))
     (case aB => exact bz)
     (case aF => exact (fun _ _ => trivial))
     (case aO => exact (rz HO_225000))
     (case aS => exact (below_size bz))
     (case aL => have := LMc6.out; omega)
     intro v227 w19 ho hb hg hat
     rw [← Ny226.out] at ho
     have n0_ := am (Kd.R_over' (rz HO_225001) (Kd.R_typed (rz HO_225000)) (by decide) hg)
     have n1_ := am (blk_grown (g := gb223) (o := .cells #[.slice none 0 0, .slice none 0 0] 43 (0, 0)) (kz BK223) hg (Kd.R_ne HO_225000.out BK223.out (by decide)))
     have n2_ := am (blk_grown (g := gb224) (o := .cells #[u225000, u225001] 43 (0, 0)) (kz BK224) hg (Kd.R_ne HO_225000.out BK224.out (by decide)))
     have n3_ := am (hb)
     have n4_ := am (ho)
     clear HO_225001
     clear BK223
     clear BK224
     clear HB
     clear HO_225000
     have HO_225001 := n0_
     have BK223 := n1_
     have BK224 := n2_
     have HB := n3_
     have HO228 := n4_
     clear n0_ n1_ n2_ n3_ n4_
     clear ho hb hg hat
     obtain ⟨Ao20, co20, eo20⟩ := Kd.R_slice HO228.out
     (first | subst eo20 | (injection eo20 with f1_ f2_ f3_; have f4_ := f1_.symm; have f5_ := f3_.symm; clear f1_ f2_ f3_; subst f4_; subst f5_))
     refine hK.out _ _ ⟨(blk_cell BK224.out 0).trans rfl, (blk_cell BK224.out 1).trans rfl, (cb HB.out hw225_0), (cb HB.out hw225_1)⟩ (fun hHeld => ?_)
     clear hK K
     refine norm_ (a' := ?_) ?_ ?_
     rotate_left
     ·
      show Act.put _ (some 19) _ = _
      simp only [Act.put, aS, lZ, lS, i64_w, i32_w]
      rfl
     refine pa (i := 9) (N := some 20) (bm 11 1023) HT_ ?_
     refine last_ (i := 10) (N := none) (bm 11 2047) rfl rfl (one_of HT_.out qz) (by decide) (fun K hK => ?_)
     have hs21 : w19.cell? ⟨gb224, 0, none⟩ = some (u225000) := (blk_cell BK224.out 0).trans rfl
     have hfs21 := blk_frozen BK224.out 0
     have hns21_0 := NB223_224.out
     have hms21_0 := NB224_223.out
     refine skip_ (w1 := ?_) (by rfl) rfl ?_ ?_
     rotate_left
     ·
      go_simp
      rfl
     refine hK.out _ _ ?_
     clear hK K
     refine done_ (done_of HT_.out qz) ?_
     try go_wp2
     go_roundg k1
     case measure => have := HK1.out; omega
     case rel => exact ⟨(wrap64 (x4_1 + 1)), (y226), (x225001_1), (.slice Ao20 y226.length co20), (u225001), sz, H', ⟨by have := HK1.out; omega⟩, ⟨by (with_reducible repeat first | apply rA | apply rN | apply rD); exact Kd.R_mono (Kd.R_far (p := ⟨gb224, 0, none⟩) (Kd.R_types HO228.out BK224.out (by decide)) (fun _ hk => hk.2) (.slice Ao20 y226.length co20)) (fun _ hk => trivial)⟩, ⟨by (with_reducible repeat first | apply rA | apply rN | apply rD); exact Kd.R_mono (Kd.R_far (p := ⟨gb224, 0, none⟩) (Kd.R_types HO_225001.out BK224.out (by decide)) (fun _ hk => hk.2) (.slice Ao20 y226.length co20)) (fun _ hk => trivial)⟩, ⟨by (with_reducible repeat first | apply kN | apply kD | apply kA); refine blk_far ?_ NB223_224.out _; (with_reducible repeat first | apply kN | apply kD | apply kA); exact BK223.out⟩, ⟨by (with_reducible repeat first | apply kN | apply kD | apply kA); refine blk_put (cs := #[u225000, u225001]) ?_ 0 _ rfl; (with_reducible repeat first | apply kN | apply kD | apply kA); exact BK224.out⟩, ⟨bz⟩⟩
   ·
    rw [if_neg c4] at H
    have c4b0 := decide_eq_false c4
    clear c4
    simp only [Option.some.injEq, Prod.mk.injEq] at H
    obtain ⟨rfl, rfl⟩ := H
    have hnb22 := NB224_223.out
    have hnc22 := NB223_224.out
    obtain ⟨hcz23_0, hcz23_1, hfz23_0, hfz23_1⟩ := kc2 BK224.out
    obtain ⟨Ao24, co24, eo24⟩ := Kd.R_slice HO_225000.out
    subst eo24
    obtain ⟨hcz25_0, hcz25_1, hfz25_0, hfz25_1⟩ := kc2 BK223.out
    obtain ⟨Ao26, co26, eo26⟩ := Kd.R_slice HO_225001.out
    subst eo26
    go_wp2
    refine bodyPost_ret (results_cell_row rfl _ _ gb223 43 #[.slice Ao24 x225000_1.length co24, .slice Ao26 x225001_1.length co26] (0, 0) _ rfl (by (with_reducible repeat first | apply kN | apply kD | apply kA); refine blk_put (cs := #[.slice Ao24 x225000_1.length co24, .slice none 0 0]) ?_ 1 _ rfl; (with_reducible repeat first | apply kN | apply kD | apply kA); refine blk_put (cs := #[.slice none 0 0, .slice none 0 0]) ?_ 0 _ rfl; (with_reducible repeat first | apply kN | apply kD | apply kA); exact BK223.out) Try.underlying43 rfl qz) rfl ?_
    exact ⟨_, _, ez, by (with_reducible repeat first | apply rA | apply rN | apply rD); exact Kd.R_mono (Kd.R_far (p := ⟨gb223, 1, none⟩) (Kd.R_far (p := ⟨gb223, 0, none⟩) (Kd.R_types HO_225000.out BK223.out (by decide)) (fun _ hk => hk.2) (.slice Ao24 x225000_1.length co24)) (fun _ hk => hk.2) (.slice Ao26 x225001_1.length co26)) (fun _ hk => trivial), by (with_reducible repeat first | apply rA | apply rN | apply rD); exact Kd.R_mono (Kd.R_far (p := ⟨gb223, 1, none⟩) (Kd.R_far (p := ⟨gb223, 0, none⟩) (Kd.R_types HO_225001.out BK223.out (by decide)) (fun _ hk => hk.2) (.slice Ao24 x225000_1.length co24)) (fun _ hk => hk.2) (.slice Ao26 x225001_1.length co26)) (fun _ hk => trivial), bz⟩

end Go.Proofs.Yteflngoiebgdaaa.X
