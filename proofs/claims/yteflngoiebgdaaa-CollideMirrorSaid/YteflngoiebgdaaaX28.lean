import Derived.Test.YteflngoiebgdaaaX0
import Derived.Test.YteflngoiebgdaaaX9
import Derived.Test.YteflngoiebgdaaaX10
import Derived.Test.YteflngoiebgdaaaX27
namespace Go.Proofs.Yteflngoiebgdaaa.X
open Go.RowKit YteflngoiebgdaaaW.PrintWords YteflngoiebgdaaaW.PrintLast YteflngoiebgdaaaW.PrintMore
attribute [local go_sem] max2_int min2_int max_two min_two max_three min_three max_four min_four
set_option linter.unusedVariables false
set_option linter.unusedSimpArgs false

/-! ### collide_Room: function 17 -/
/-! #### Room, told plainly -/
def collide_Room.dist (k : Nat) (l : List S43) (t : Int) (p : Nat × Nat) : Option Int :=
  if 0 ≤ t ∧ t < ((rd_T43 l (p.1 : Int)).f0.length : Int) ∧ t < ((rd_T43 l (p.2 : Int)).f0.length : Int) then
    (geom_Dist2.f k (rd_T54 (rd_T43 l (p.1 : Int)).f0 t).f0.f0 (rd_T54 (rd_T43 l (p.1 : Int)).f0 t).f0.f1 (rd_T54 (rd_T43 l (p.2 : Int)).f0 t).f0.f0 (rd_T54 (rd_T43 l (p.2 : Int)).f0 t).f0.f1).bind fun d => some d.1
  else none
def collide_Room.less (a n : Int) : Int := if a < 0 ∨ n < a then n else a
def collide_Room.f (k : Nat) (l0 : List S43) (l1 : List Int) (l2 : List S62) (a3 : Int) : Option (Int × Int) :=
  (collide_Check.f k l0 l1 l2).bind fun e => if e = 0 then (if (l0.length : Int) < 2 then some (0, 6) else if a3 < 0 then some (0, 1) else
    (collide_length.f l0).bind fun n => if n < a3 then some (0, 1) else if l0.length ≤ 1000000 then
      (collide_pairs.all (collide_Room.dist k l0 a3) (collide_pairs.prs collide_pairs.mk l0.length)).bind fun d => some (d.foldl collide_Room.less (-1), 0) else none) else some (0, e)
theorem collide_Room.mono : ∀ a0 a1 a2 a3 k, LeO (collide_Room.f k a0 a1 a2 a3) (collide_Room.f (k + 1) a0 a1 a2 a3) := by
  intro a0 a1 a2 a3 k
  unfold collide_Room.f
  refine LeO.bind (collide_Check.mono _ _ _ _) (fun e => LeO.ite (LeO.ite (LeO.refl _) (LeO.ite (LeO.refl _) (LeO.bind (LeO.refl _) (fun n => LeO.ite (LeO.refl _) (LeO.ite (LeO.bind (collide_pairs.all_mono (fun p => ?_) _) (fun _ => LeO.refl _)) (LeO.refl _)))))) (LeO.refl _))
  unfold collide_Room.dist
  exact LeO.ite (LeO.bind (geom_Dist2.mono _ _ _ _ _) (fun _ => LeO.refl _)) (LeO.refl _)
set_option maxHeartbeats 8000000 in
set_option maxRecDepth 100000 in
theorem collide_Room.leaf0 (k : Nat) (A0 : Option Addr) (c0 : Nat) (l0 : List S43) (A1 : Option Addr) (c1 : Nat) (l1 : List Int) (A2 : Option Addr) (c2 : Nat) (l2 : List S62) (a3 e : Int) (w : World) (HR0 : Aside0 (Kd.C k43 w A0 l0.length l0)) (HC0 : l0.length ≤ c0) (HR1 : Aside0 (Kd.C (Kd.int .i64) w A1 l1.length l1)) (HC1 : l1.length ≤ c1) (HR2 : Aside0 (Kd.C k62 w A2 l2.length l2)) (HC2 : l2.length ≤ c2)
    (A : Aside0 (collide_Check.f k l0 l1 l2 = some e)) (he : (e == 0) = false) (he' : (e != 0) = true) :
    Calls Try.prog 17 #[.slice A0 l0.length c0, .slice A1 l1.length c1, .slice A2 l2.length c2, .int .i64 a3] w fun x w' => x = .returned (.tuple #[.int .i64 0, .int .i64 e]) ∧ Below w.heap.size w w' := by
  have HB := am (Below.refl w.heap.size w)
  have HC0 := am HC0
  have HC1 := am HC1
  have HC2 := am HC2
  go_enter Try.func17, Try.ntmps17
  go_wp2_with (first
    | ((with_reducible refine gate_dst (N := 4) rfl ?_); refine box_event yz (N := 4) yz (cs := #[.slice A0 l0.length c0]) (t := 22) gz ?_; intro g4 hg w1 hbox hb; have BK4 := am hbox; have GE4 := gwz (g := g4) HB hg; replace HB := am (below_step bz hb); clear hb hbox hg; obtain ⟨hcz4, hfz4⟩ := kc1 BK4.out)
    | ((with_reducible refine gate_dst (N := 7) rfl ?_); refine box_event yz (N := 7) yz (cs := #[.int .i64 a3]) (t := 3) gz ?_; intro g7 hg w2 hbox hb; have BK7 := am hbox; have GE7 := gwz (g := g7) HB hg; replace HB := am (below_step bz hb); replace BK4 := am (blk_below (kz BK4) hb); clear hb hbox hg hcz4 hfz4; obtain ⟨hcz4, hfz4⟩ := kc1 BK4.out; obtain ⟨hcz7, hfz7⟩ := kc1 BK7.out)
    | (go_at_call 14; (with_reducible refine (collide_Check.calls k _ _ l0 _ _ l1 _ _ l2 e _ ?side1 ?side2 ?side3 ?side4 ?side5 ?side6 A.out).mono ?_); (case side1 => exact cz HR0); (case side2 => exact HC0.out); (case side3 => exact cz HR1); (case side4 => exact HC1.out); (case side5 => exact cz HR2); (case side6 => exact HC2.out); rintro _ w3 ⟨rfl, hb⟩; replace BK4 := am (blk_below (kz BK4) hb); replace BK7 := am (blk_below (kz BK7) hb); replace HB := am (below_step bz hb); clear hb hcz4 hfz4 hcz7 hfz7; obtain ⟨hcz4, hfz4⟩ := kc1 BK4.out; obtain ⟨hcz7, hfz7⟩ := kc1 BK7.out))
  go_ret2
  exact ⟨ez, bz⟩
set_option maxHeartbeats 8000000 in
set_option maxRecDepth 100000 in
theorem collide_Room.leaf1 (k : Nat) (A0 : Option Addr) (c0 : Nat) (l0 : List S43) (A1 : Option Addr) (c1 : Nat) (l1 : List Int) (A2 : Option Addr) (c2 : Nat) (l2 : List S62) (a3 : Int) (w : World) (HR0 : Aside0 (Kd.C k43 w A0 l0.length l0)) (HC0 : l0.length ≤ c0) (HR1 : Aside0 (Kd.C (Kd.int .i64) w A1 l1.length l1)) (HC1 : l1.length ≤ c1) (HR2 : Aside0 (Kd.C k62 w A2 l2.length l2)) (HC2 : l2.length ≤ c2)
    (A : Aside0 (collide_Check.f k l0 l1 l2 = some 0)) (h2 : decide ((l0.length : Int) < 2) = true) :
    Calls Try.prog 17 #[.slice A0 l0.length c0, .slice A1 l1.length c1, .slice A2 l2.length c2, .int .i64 a3] w fun x w' => x = .returned (.tuple #[.int .i64 0, .int .i64 6]) ∧ Below w.heap.size w w' := by
  have HB := am (Below.refl w.heap.size w)
  have HC0 := am HC0
  have HC1 := am HC1
  have HC2 := am HC2
  go_enter Try.func17, Try.ntmps17
  go_wp2_with (first
    | ((with_reducible refine gate_dst (N := 4) rfl ?_); refine box_event yz (N := 4) yz (cs := #[.slice A0 l0.length c0]) (t := 22) gz ?_; intro g4 hg w1 hbox hb; have BK4 := am hbox; have GE4 := gwz (g := g4) HB hg; replace HB := am (below_step bz hb); clear hb hbox hg; obtain ⟨hcz4, hfz4⟩ := kc1 BK4.out)
    | ((with_reducible refine gate_dst (N := 7) rfl ?_); refine box_event yz (N := 7) yz (cs := #[.int .i64 a3]) (t := 3) gz ?_; intro g7 hg w2 hbox hb; have BK7 := am hbox; have GE7 := gwz (g := g7) HB hg; replace HB := am (below_step bz hb); replace BK4 := am (blk_below (kz BK4) hb); clear hb hbox hg hcz4 hfz4; obtain ⟨hcz4, hfz4⟩ := kc1 BK4.out; obtain ⟨hcz7, hfz7⟩ := kc1 BK7.out)
    | (go_at_call 14; (with_reducible refine (collide_Check.calls k _ _ l0 _ _ l1 _ _ l2 0 _ ?side1 ?side2 ?side3 ?side4 ?side5 ?side6 A.out).mono ?_); (case side1 => exact cz HR0); (case side2 => exact HC0.out); (case side3 => exact cz HR1); (case side4 => exact HC1.out); (case side5 => exact cz HR2); (case side6 => exact HC2.out); rintro _ w3 ⟨rfl, hb⟩; replace BK4 := am (blk_below (kz BK4) hb); replace BK7 := am (blk_below (kz BK7) hb); replace HB := am (below_step bz hb); clear hb hcz4 hfz4 hcz7 hfz7; obtain ⟨hcz4, hfz4⟩ := kc1 BK4.out; obtain ⟨hcz7, hfz7⟩ := kc1 BK7.out))
  go_ret2
  exact ⟨ez, bz⟩
set_option maxHeartbeats 8000000 in
set_option maxRecDepth 100000 in
theorem collide_Room.leaf2 (k : Nat) (A0 : Option Addr) (c0 : Nat) (l0 : List S43) (A1 : Option Addr) (c1 : Nat) (l1 : List Int) (A2 : Option Addr) (c2 : Nat) (l2 : List S62) (a3 : Int) (w : World) (HR0 : Aside0 (Kd.C k43 w A0 l0.length l0)) (HC0 : l0.length ≤ c0) (HR1 : Aside0 (Kd.C (Kd.int .i64) w A1 l1.length l1)) (HC1 : l1.length ≤ c1) (HR2 : Aside0 (Kd.C k62 w A2 l2.length l2)) (HC2 : l2.length ≤ c2)
    (A : Aside0 (collide_Check.f k l0 l1 l2 = some 0)) (h2 : decide ((l0.length : Int) < 2) = false) (h3 : decide (a3 < 0) = true) :
    Calls Try.prog 17 #[.slice A0 l0.length c0, .slice A1 l1.length c1, .slice A2 l2.length c2, .int .i64 a3] w fun x w' => x = .returned (.tuple #[.int .i64 0, .int .i64 1]) ∧ Below w.heap.size w w' := by
  have HB := am (Below.refl w.heap.size w)
  have HC0 := am HC0
  have HC1 := am HC1
  have HC2 := am HC2
  go_enter Try.func17, Try.ntmps17
  go_wp2_with (first
    | ((with_reducible refine gate_dst (N := 4) rfl ?_); refine box_event yz (N := 4) yz (cs := #[.slice A0 l0.length c0]) (t := 22) gz ?_; intro g4 hg w1 hbox hb; have BK4 := am hbox; have GE4 := gwz (g := g4) HB hg; replace HB := am (below_step bz hb); clear hb hbox hg; obtain ⟨hcz4, hfz4⟩ := kc1 BK4.out)
    | ((with_reducible refine gate_dst (N := 7) rfl ?_); refine box_event yz (N := 7) yz (cs := #[.int .i64 a3]) (t := 3) gz ?_; intro g7 hg w2 hbox hb; have BK7 := am hbox; have GE7 := gwz (g := g7) HB hg; replace HB := am (below_step bz hb); replace BK4 := am (blk_below (kz BK4) hb); clear hb hbox hg hcz4 hfz4; obtain ⟨hcz4, hfz4⟩ := kc1 BK4.out; obtain ⟨hcz7, hfz7⟩ := kc1 BK7.out)
    | (go_at_call 14; (with_reducible refine (collide_Check.calls k _ _ l0 _ _ l1 _ _ l2 0 _ ?side1 ?side2 ?side3 ?side4 ?side5 ?side6 A.out).mono ?_); (case side1 => exact cz HR0); (case side2 => exact HC0.out); (case side3 => exact cz HR1); (case side4 => exact HC1.out); (case side5 => exact cz HR2); (case side6 => exact HC2.out); rintro _ w3 ⟨rfl, hb⟩; replace BK4 := am (blk_below (kz BK4) hb); replace BK7 := am (blk_below (kz BK7) hb); replace HB := am (below_step bz hb); clear hb hcz4 hfz4 hcz7 hfz7; obtain ⟨hcz4, hfz4⟩ := kc1 BK4.out; obtain ⟨hcz7, hfz7⟩ := kc1 BK7.out))
  go_region
  all_goals (go_wp2; go_ret2; exact ⟨ez, bz⟩)
set_option maxHeartbeats 8000000 in
set_option maxRecDepth 100000 in
theorem collide_Room.leaf3 (k : Nat) (A0 : Option Addr) (c0 : Nat) (l0 : List S43) (A1 : Option Addr) (c1 : Nat) (l1 : List Int) (A2 : Option Addr) (c2 : Nat) (l2 : List S62) (a3 : Int) (w : World) (HR0 : Aside0 (Kd.C k43 w A0 l0.length l0)) (HC0 : l0.length ≤ c0) (HR1 : Aside0 (Kd.C (Kd.int .i64) w A1 l1.length l1)) (HC1 : l1.length ≤ c1) (HR2 : Aside0 (Kd.C k62 w A2 l2.length l2)) (HC2 : l2.length ≤ c2)
    (A : Aside0 (collide_Check.f k l0 l1 l2 = some 0)) (h2 : decide ((l0.length : Int) < 2) = false) (h3 : decide (a3 < 0) = false) {nn : Int} (AL : Aside0 (collide_length.f l0 = some nn)) (h4 : decide (nn < a3) = true) :
    Calls Try.prog 17 #[.slice A0 l0.length c0, .slice A1 l1.length c1, .slice A2 l2.length c2, .int .i64 a3] w fun x w' => x = .returned (.tuple #[.int .i64 0, .int .i64 1]) ∧ Below w.heap.size w w' := by
  have HB := am (Below.refl w.heap.size w)
  have HC0 := am HC0
  have HC1 := am HC1
  have HC2 := am HC2
  go_enter Try.func17, Try.ntmps17
  go_wp2_with (first
    | ((with_reducible refine gate_dst (N := 4) rfl ?_); refine box_event yz (N := 4) yz (cs := #[.slice A0 l0.length c0]) (t := 22) gz ?_; intro g4 hg w1 hbox hb; have BK4 := am hbox; have GE4 := gwz (g := g4) HB hg; replace HB := am (below_step bz hb); clear hb hbox hg; obtain ⟨hcz4, hfz4⟩ := kc1 BK4.out)
    | ((with_reducible refine gate_dst (N := 7) rfl ?_); refine box_event yz (N := 7) yz (cs := #[.int .i64 a3]) (t := 3) gz ?_; intro g7 hg w2 hbox hb; have BK7 := am hbox; have GE7 := gwz (g := g7) HB hg; replace HB := am (below_step bz hb); replace BK4 := am (blk_below (kz BK4) hb); clear hb hbox hg hcz4 hfz4; obtain ⟨hcz4, hfz4⟩ := kc1 BK4.out; obtain ⟨hcz7, hfz7⟩ := kc1 BK7.out)
    | (go_at_call 14; (with_reducible refine (collide_Check.calls k _ _ l0 _ _ l1 _ _ l2 0 _ ?side1 ?side2 ?side3 ?side4 ?side5 ?side6 A.out).mono ?_); (case side1 => exact cz HR0); (case side2 => exact HC0.out); (case side3 => exact cz HR1); (case side4 => exact HC1.out); (case side5 => exact cz HR2); (case side6 => exact HC2.out); rintro _ w3 ⟨rfl, hb⟩; replace BK4 := am (blk_below (kz BK4) hb); replace BK7 := am (blk_below (kz BK7) hb); replace HB := am (below_step bz hb); clear hb hcz4 hfz4 hcz7 hfz7; obtain ⟨hcz4, hfz4⟩ := kc1 BK4.out; obtain ⟨hcz7, hfz7⟩ := kc1 BK7.out))
  go_region_with (go_at_call 30; (with_reducible refine (collide_length.calls _ _ l0 nn _ ?side1 ?side2 AL.out).mono ?_); (case side1 => exact cz HR0); (case side2 => exact HC0.out); rintro _ w4 ⟨rfl, hb_⟩; have hb := hb_.below; replace BK4 := am (blk_below (kz BK4) hb); replace BK7 := am (blk_below (kz BK7) hb); replace HB := am (below_step bz hb); clear hb hb_ hcz4 hfz4 hcz7 hfz7; obtain ⟨hcz4, hfz4⟩ := kc1 BK4.out; obtain ⟨hcz7, hfz7⟩ := kc1 BK7.out)
  all_goals (go_wp2; go_ret2; exact ⟨ez, bz⟩)
def collide_Room.T12 : Bool × List (List Nat × List Nat) := (true, [([], []), ([], []), ([0, 1], [0, 1]), ([2], [2]), ([3], [3]), ([], []), ([4, 5], [4, 5]), ([6], [6]), ([7], [7]), ([], []), ([], []), ([9, 10], [9, 10]), ([11], [11]), ([12], [12]), ([], []), ([13, 14], [13, 14]), ([15], [15]), ([16], [16]), ([8, 17], [8, 17]), ([18], [18]), ([19], [19]), ([19], [19]), ([20, 18, 0, 1, 2, 3, 4, 5, 6, 7, 8, 9, 10, 11, 12, 13, 14, 15, 16, 17, 18, 19, 20], [20]), ([21, 22, 0, 1, 2, 3, 4, 5, 6, 7, 8, 9, 10, 11, 12, 13, 14, 15, 16, 17, 18, 19, 20, 21, 22], [21])])
def collide_Room.B12 : List Nat := [0, 0, 3, 7, 15, 0, 63, 127, 255, 0, 0, 1536, 3584, 7680, 0, 32256, 65024, 130560, 262143, 524287, 1048575, 1048575, 2097151, 8388607]
theorem collide_Room.tab12 : rtab .any (opsOf Try.f17 12) = collide_Room.T12 := by kernel_rfl
theorem collide_Room.bits12 : waitsOk collide_Room.T12.2 collide_Room.B12 = true := by kernel_rfl
section
attribute [local go_sem] Oper.semAt_some
set_option maxHeartbeats 8000000 in
set_option maxRecDepth 100000 in
theorem collide_Room.leaf4 (k : Nat) (A0 : Option Addr) (c0 : Nat) (l0 : List S43) (A1 : Option Addr) (c1 : Nat) (l1 : List Int) (A2 : Option Addr) (c2 : Nat) (l2 : List S62) (a3 : Int) (w : World) (HR0 : Aside0 (Kd.C k43 w A0 l0.length l0)) (HC0 : l0.length ≤ c0) (HR1 : Aside0 (Kd.C (Kd.int .i64) w A1 l1.length l1)) (HC1 : l1.length ≤ c1) (HR2 : Aside0 (Kd.C k62 w A2 l2.length l2)) (HC2 : l2.length ≤ c2)
    (A : Aside0 (collide_Check.f k l0 l1 l2 = some 0)) (h2 : decide ((l0.length : Int) < 2) = false) (h3 : decide (a3 < 0) = false) {nn : Int} (AL : Aside0 (collide_length.f l0 = some nn)) (h4 : decide (nn < a3) = false) (hm : l0.length ≤ 1000000) (D : Nat × Nat → Int) (hD : Aside0 (∀ p, p.1 < p.2 ∧ p.2 < l0.length → collide_Room.dist k l0 a3 p = some (D p))) :
    Calls Try.prog 17 #[.slice A0 l0.length c0, .slice A1 l1.length c1, .slice A2 l2.length c2, .int .i64 a3] w fun x w' => x = .returned (.tuple #[.int .i64 (((collide_pairs.prs collide_pairs.mk l0.length).map D).foldl collide_Room.less (-1)), .int .i64 0]) ∧ Below w.heap.size w w' := by
  have HB := am (Below.refl w.heap.size w)
  have HC0 := am HC0
  have HC1 := am HC1
  have HC2 := am HC2
  refine (callsIn_wide (n := 9)).1 (callsIn_of_wp_marks Try.func17 rfl trivial ?_ rfl)
  refine wpIn_wide.2 ?_
  simp only [Try.ntmps17, List.size_toArray, List.length_cons, List.length_nil, Nat.reduceAdd, Nat.reduceSub, Array.replicate_succ, Array.replicate_zero, List.push_toArray, List.append_toArray, List.nil_append, List.cons_append]
  go_wp2_with (first
    | ((with_reducible refine gate_dst (N := 4) rfl ?_); refine box_event yz (N := 4) yz (cs := #[.slice A0 l0.length c0]) (t := 22) gz ?_; intro g4 hg w1 hbox hb; have BK4 := am hbox; have GE4 := gwz (g := g4) HB hg; replace HB := am (below_step bz hb); clear hb hbox hg; obtain ⟨hcz4, hfz4⟩ := kc1 BK4.out)
    | ((with_reducible refine gate_dst (N := 7) rfl ?_); refine box_event yz (N := 7) yz (cs := #[.int .i64 a3]) (t := 3) gz ?_; intro g7 hg w2 hbox hb; have BK7 := am hbox; have GE7 := gwz (g := g7) HB hg; replace HB := am (below_step bz hb); replace BK4 := am (blk_below (kz BK4) hb); clear hb hbox hg hcz4 hfz4; obtain ⟨hcz4, hfz4⟩ := kc1 BK4.out; obtain ⟨hcz7, hfz7⟩ := kc1 BK7.out)
    | (go_at_call 14; (with_reducible refine (collide_Check.calls k _ _ l0 _ _ l1 _ _ l2 0 _ ?side1 ?side2 ?side3 ?side4 ?side5 ?side6 A.out).mono ?_); (case side1 => exact cz HR0); (case side2 => exact HC0.out); (case side3 => exact cz HR1); (case side4 => exact HC1.out); (case side5 => exact cz HR2); (case side6 => exact HC2.out); rintro _ w3 ⟨rfl, hb⟩; replace BK4 := am (blk_below (kz BK4) hb); replace BK7 := am (blk_below (kz BK7) hb); replace HB := am (below_step bz hb); clear hb hcz4 hfz4 hcz7 hfz7; obtain ⟨hcz4, hfz4⟩ := kc1 BK4.out; obtain ⟨hcz7, hfz7⟩ := kc1 BK7.out))
  refine collide_pairs.strict ?_
  go_region_with (go_at_call 30; (with_reducible refine (collide_length.calls _ _ l0 nn _ ?side1 ?side2 AL.out).mono ?_); (case side1 => exact cz HR0); (case side2 => exact HC0.out); rintro _ w4 ⟨rfl, hb_⟩; have hb := hb_.below; replace BK4 := am (blk_below (kz BK4) hb); replace BK7 := am (blk_below (kz BK7) hb); replace HB := am (below_step bz hb); clear hb hb_ hcz4 hfz4 hcz7 hfz7; obtain ⟨hcz4, hfz4⟩ := kc1 BK4.out; obtain ⟨hcz7, hfz7⟩ := kc1 BK7.out)
  all_goals
    go_wp2_with (first
      | ((with_reducible refine gate_dst (N := 11) rfl ?_); refine box_event yz (N := 11) yz (cs := #[.int .i64 0]) (t := 3) gz ?_; intro g11 hg w5 hbox hb; have BK11 := am hbox; have GE11 := gwz (g := g11) HB hg; have N4 := nlt (g' := g11) BK4 hg; have N7 := nlt (g' := g11) BK7 hg; replace HB := am (below_step bz hb); replace BK4 := am (blk_below (kz BK4) hb); replace BK7 := am (blk_below (kz BK7) hb); clear hb hbox hg hcz4 hfz4 hcz7 hfz7; obtain ⟨hcz11, hfz11⟩ := kc1 BK11.out; have hs4 := (Boxed.other (u := .int .i64 (-1)) (show Boxed w5 g4 _ _ from BK4.out) N4.out).cell)
      | (go_at_call 31; refine (collide_pairs.gives _ _).mono ?_; rintro _ w6 ⟨rfl, hw6⟩))
    clear hcz11 hfz11 hs4
    have b11 : Boxed w6 g11 3 (.int .i64 (-1)) := by rw [hw6]; exact ((show Boxed w5 g11 3 _ from BK11.out).set _).alloc _
    have b4 : Boxed w6 g4 22 (.slice A0 l0.length c0) := by rw [hw6]; exact (Boxed.other (show Boxed w5 g4 22 _ from BK4.out) N4.out _).alloc _
    have b7 : Boxed w6 g7 3 (.int .i64 a3) := by rw [hw6]; exact (Boxed.other (show Boxed w5 g7 3 _ from BK7.out) N7.out _).alloc _
    have bn : Boxed w6 w5.heap.size 3 (.int .i64 (l0.length : Int)) := by
      rw [hw6]
      have := Boxed.new (w5.setCell ⟨g11, 0, none⟩ (.int .i64 (-1))) 3 (.int .i64 (l0.length : Int))
      simpa using this
    have hb6 : Below w.heap.size w w6 := by rw [hw6]; exact (HB.out.setCell (p := ⟨g11, 0, none⟩) GE11.out _).alloc (by simp; exact HB.out.size) _
    have hn5 : ∀ g, g = g4 ∨ g = g7 ∨ g = g11 → g < w5.heap.size := by
      rintro g (rfl | rfl | rfl)
      · exact blk_lt BK4.out
      · exact blk_lt BK7.out
      · exact blk_lt BK11.out
    rw [← hw6]
    clear hw6 HB BK4 BK7 BK11
    refine (wpIn_wide (n := 9)).1 ?_
    refine wpIn_rangeFunc_ownH rfl (by omega) (gf := 50) (lb := #[.pointer (some ⟨w5.heap.size, 0, none⟩)]) rfl trivial (Go.Proofs.enters_of Try.func50 qz rfl)
      (collide_pairs.stopsK (collide_pairs.enc l0.length) collide_pairs.mk (collide_pairs.kp w5.heap.size) (fun _ _ h => h) collide_pairs.kp_t 8 w5.heap.size l0.length hm (collide_pairs.enc_of l0.length) (fun _ _ h => h) w6 bn.lt bn.cell) collide_pairs.kp_t collide_pairs.kp_b (Below.refl _ _) (fun _ => rfl)
      (fun pre W => ((Boxed W g11 3 (.int .i64 (((pre.map (collide_pairs.cl l0.length)).map D).foldl collide_Room.less (-1))) ∧ Boxed W g4 22 (.slice A0 l0.length c0)) ∧ Boxed W g7 3 (.int .i64 a3)) ∧ Below w.heap.size w W)
      (fun _ _ _ => False)
      (OwnFrom.and (OwnFrom.and (OwnFrom.and (Own.from (boxed_own g11 3 (fun pre : List (Nat × Nat) => Value.int .i64 (((pre.map (collide_pairs.cl l0.length)).map D).foldl collide_Room.less (-1)))) _) (Own.from (boxed_own g4 22 (fun _ => .slice A0 l0.length c0)) _)) (Own.from (boxed_own g7 3 (fun _ => .int .i64 a3)) _)) (ownFrom_below (Nat.le_refl _) hb6.size))
      (fun _ => fun _ _ _ _ h _ _ => h.elim)
      ⟨⟨⟨b11, b4⟩, b7⟩, hb6⟩
      (fun q a' W => a' = { tmps := #[.slice A0 l0.length c0, .slice A1 l1.length c1, .slice A2 l2.length c2, .int .i64 a3, .pointer (some ⟨g4, 0, none⟩), undef, undef, .pointer (some ⟨g7, 0, none⟩), .int .i64 0, .int .i64 0, .int .i64 0, .pointer (some ⟨g11, 0, none⟩), (.int .i64 ((collide_pairs.cl l0.length q).1 : Int)), (.int .i64 ((collide_pairs.cl l0.length q).2 : Int)), undef, undef, .slice A0 l0.length c0, .slice A1 l1.length c1, .slice A2 l2.length c2, .int .i64 0, .int .i64 0, .bool false, undef, .slice A0 l0.length c0, .int .i64 (l0.length : Int), .bool false, .int .i64 a3, .bool false, .bool false, .int .i64 a3, .slice A0 l0.length c0, .int .i64 nn, .bool false, .bool false, .slice A0 l0.length c0, .int .i64 (l0.length : Int), .func (.func 50) #[] #[.pointer (some ⟨w5.heap.size, 0, none⟩)], (.int .i64 ((collide_pairs.cl l0.length q).1 : Int)), (.int .i64 ((collide_pairs.cl l0.length q).2 : Int)), undef, undef, undef, undef, undef, undef, undef, undef, undef, undef, undef, undef, undef, undef, undef, undef, undef, undef, undef, undef, undef, undef, undef, undef, undef, undef, undef, undef, undef, undef, undef], defers := [] })
      ?hAx ?assign ?body ?done ?stop
    case hAx => exact fun _ _ _ _ _ _ h _ _ => h
    case assign =>
      intro l' pre q W K hI hK
      unfold collide_pairs.enc
      gi_wp2
      exact hK _ _ (KeepsFrom.refl _ _) (fun _ h => h) hI rfl
    case body =>
      rintro l' pre q a' W hl' hrec ⟨⟨⟨i11, i4⟩, i7⟩, hBW⟩ rfl hlen
      have h2n := collide_pairs.two_of hlen
      obtain ⟨hab, hbn⟩ := collide_pairs.cl_lt h2n q
      have hDq := hD.out (collide_pairs.cl l0.length q) ⟨hab, hbn⟩
      have HJ := am (show (((pre ++ [q]).map (collide_pairs.cl l0.length)).map D).foldl collide_Room.less (-1) = collide_Room.less (((pre.map (collide_pairs.cl l0.length)).map D).foldl collide_Room.less (-1)) (D (collide_pairs.cl l0.length q)) by simp)
      obtain ⟨⟨a, b⟩, hq⟩ : ∃ p, collide_pairs.cl l0.length q = p := ⟨_, rfl⟩
      rw [hq] at hab hbn hDq HJ
      rw [hq]
      dsimp only at hab hbn hDq ⊢
      obtain ⟨acc, hacc⟩ : ∃ z, ((pre.map (collide_pairs.cl l0.length)).map D).foldl collide_Room.less (-1) = z := ⟨_, rfl⟩
      rw [hacc] at i11 HJ
      unfold collide_Room.dist at hDq
      by_cases hc : 0 ≤ a3 ∧ a3 < ((rd_T43 l0 ((a, b).1 : Int)).f0.length : Int) ∧ a3 < ((rd_T43 l0 ((a, b).2 : Int)).f0.length : Int)
      · rw [if_pos hc] at hDq
        obtain ⟨p1, p2, p3⟩ := hc
        obtain ⟨⟨dd, de⟩, hdd, hDq⟩ := Option.bind_eq_some_iff.1 hDq
        have hdv : dd = D (a, b) := Option.some.inj hDq
        dsimp only at hdd p2 p3
        have HR0w := am (Kd.C_below HR0.out hBW)
        obtain ⟨ad0, B0, c0_0, B1, c0_1, e0, ha0, _, _, hk0, _, _⟩ := at_T43 HR0w.out (a : Int) (by omega) (by omega)
        cases e0
        obtain ⟨ad0', B2, c1_0, B3, c1_1, e1, hb0, _, _, hk1, _, _⟩ := at_T43 HR0w.out (b : Int) (by omega) (by omega)
        cases e1
        obtain ⟨ad1, e2, hx0, hx1, _⟩ := at_T54 hk0 a3 p1 p2
        cases e2
        obtain ⟨ad2, e3, hy0, hy1, _⟩ := at_T54 hk1 a3 p1 p3
        cases e3
        obtain ⟨x0, hx0'⟩ : ∃ z, (rd_T54 (rd_T43 l0 (a : Int)).f0 a3).f0.f0 = z := ⟨_, rfl⟩
        obtain ⟨x1, hx1'⟩ : ∃ z, (rd_T54 (rd_T43 l0 (a : Int)).f0 a3).f0.f1 = z := ⟨_, rfl⟩
        obtain ⟨y0, hy0'⟩ : ∃ z, (rd_T54 (rd_T43 l0 (b : Int)).f0 a3).f0.f0 = z := ⟨_, rfl⟩
        obtain ⟨y1, hy1'⟩ : ∃ z, (rd_T54 (rd_T43 l0 (b : Int)).f0 a3).f0.f1 = z := ⟨_, rfl⟩
        rw [hx0'] at hx0 hdd
        rw [hx1'] at hx1 hdd
        rw [hy0'] at hy0 hdd
        rw [hy1'] at hy1 hdd
        replace hdd := am hdd
        rw [Int.toNat_natCast] at ha0 hb0
        have k4 := i4.cell
        have k7 := i7.cell
        have I11 := am i11
        have I4 := am i4
        have I7 := am i7
        have q0 : (0 ≤ (a : Int)) = True := eq_true (by omega)
        have q1 : ((a : Int) < (l0.length : Int)) = True := eq_true (by omega)
        have q2 : (0 ≤ (b : Int)) = True := eq_true (by omega)
        have q3 : ((b : Int) < (l0.length : Int)) = True := eq_true (by omega)
        replace p1 := eq_true p1
        replace p2 := eq_true p2
        replace p3 := eq_true p3
        clear i11 i4 i7 hk0 hk1
        gi_wp2
        refine start_round (n := 24) (S := fun w' => w'.cell? ⟨g4, 0, none⟩ = some (.slice (some ad0) l0.length c0) ∧ w'.cell? ⟨g7, 0, none⟩ = some (.int .i64 a3) ∧ w'.cell? (ad0.add (a * 2)) = some (.slice (some ad1) (rd_T43 l0 (a : Int)).f0.length c0_0) ∧ w'.cell? (ad1.add (a3.toNat * 22)) = some (.int .i64 x0) ∧ w'.cell? ⟨(ad1.add (a3.toNat * 22)).block, (ad1.add (a3.toNat * 22)).off + 1, none⟩ = some (.int .i64 x1) ∧ w'.cell? (ad0.add (b * 2)) = some (.slice (some ad2) (rd_T43 l0 (b : Int)).f0.length c1_0) ∧ w'.cell? (ad2.add (a3.toNat * 22)) = some (.int .i64 y0) ∧ w'.cell? ⟨(ad2.add (a3.toNat * 22)).block, (ad2.add (a3.toNat * 22)).off + 1, none⟩ = some (.int .i64 y1)) (ds := []) (bm 24 0) (by rintro ⟨_, _, h⟩; exact h) qz qz rfl rfl ⟨k4, k7, ha0, hx0, hx1, hb0, hy0, hy1⟩ (fun hHeld => ?_); refine with_tabW collide_Room.tab12 collide_Room.bits12 (fun HT_ HW_ => ?_)
        refine pa (i := 1) (N := some 41) (bm 24 2) HT_ ?_
        refine pa (i := 10) (N := some 50) (bm 24 1026) HT_ ?_
        refine take_ (i := 0) (N := some 40) (v := ?_) (a' := ?_) (bm 24 1027) rfl rfl (take_ofW HT_.out HW_.out qz) iz (Or.inl ⟨by rfl, ?_⟩) hHeld ?_ ?_
        rotate_left; (rintro w' ⟨s0, s1, s2, s3, s4, s5, s6, s7⟩; go_simp; with_reducible rfl); rotate_left; (simp only [Act.put, aS, lZ, lS, i64_w, i32_w]; rfl)
        refine pa (i := 2) (N := some 42) (bm 24 1031) HT_ ?_
        refine pa (i := 3) (N := some 43) (bm 24 1039) HT_ ?_
        refine take_ (i := 4) (N := some 44) (v := ?_) (a' := ?_) (bm 24 1055) rfl rfl (take_ofW HT_.out HW_.out qz) iz (Or.inl ⟨by rfl, ?_⟩) hHeld ?_ ?_
        rotate_left; (rintro w' ⟨s0, s1, s2, s3, s4, s5, s6, s7⟩; go_simp; with_reducible rfl); rotate_left; (simp only [Act.put, aS, lZ, lS, i64_w, i32_w]; rfl)
        refine take_ (i := 5) (N := some 45) (v := ?_) (a' := ?_) (bm 24 1087) rfl rfl (take_ofW HT_.out HW_.out qz) iz (Or.inl ⟨by rfl, ?_⟩) hHeld ?_ ?_
        rotate_left; (rintro w' ⟨s0, s1, s2, s3, s4, s5, s6, s7⟩; go_simp; with_reducible rfl); rotate_left; (simp only [Act.put, aS, lZ, lS, i64_w, i32_w]; rfl)
        refine pa (i := 6) (N := some 46) (bm 24 1151) HT_ ?_
        refine pa (i := 7) (N := some 47) (bm 24 1279) HT_ ?_
        refine take_ (i := 8) (N := some 48) (v := ?_) (a' := ?_) (bm 24 1535) rfl rfl (take_ofW HT_.out HW_.out qz) iz (Or.inl ⟨by rfl, ?_⟩) hHeld ?_ ?_
        rotate_left; (rintro w' ⟨s0, s1, s2, s3, s4, s5, s6, s7⟩; go_simp; with_reducible rfl); rotate_left; (simp only [Act.put, aS, lZ, lS, i64_w, i32_w]; rfl)
        refine take_ (i := 9) (N := some 49) (v := ?_) (a' := ?_) (bm 24 2047) rfl rfl (take_ofW HT_.out HW_.out qz) iz (Or.inl ⟨by rfl, ?_⟩) hHeld ?_ ?_
        rotate_left; (rintro w' ⟨s0, s1, s2, s3, s4, s5, s6, s7⟩; go_simp; with_reducible rfl); rotate_left; (simp only [Act.put, aS, lZ, lS, i64_w, i32_w]; rfl)
        refine pa (i := 11) (N := some 51) (bm 24 4095) HT_ ?_
        refine pa (i := 12) (N := some 52) (bm 24 8191) HT_ ?_
        refine take_ (i := 13) (N := some 53) (v := ?_) (a' := ?_) (bm 24 16383) rfl rfl (take_ofW HT_.out HW_.out qz) iz (Or.inl ⟨by rfl, ?_⟩) hHeld ?_ ?_
        rotate_left; (rintro w' ⟨s0, s1, s2, s3, s4, s5, s6, s7⟩; go_simp; with_reducible rfl); rotate_left; (simp only [Act.put, aS, lZ, lS, i64_w, i32_w]; rfl)
        refine take_ (i := 14) (N := some 54) (v := ?_) (a' := ?_) (bm 24 32767) rfl rfl (take_ofW HT_.out HW_.out qz) iz (Or.inl ⟨by rfl, ?_⟩) hHeld ?_ ?_
        rotate_left; (rintro w' ⟨s0, s1, s2, s3, s4, s5, s6, s7⟩; go_simp; with_reducible rfl); rotate_left; (simp only [Act.put, aS, lZ, lS, i64_w, i32_w]; rfl)
        refine pa (i := 15) (N := some 55) (bm 24 65535) HT_ ?_
        refine pa (i := 16) (N := some 56) (bm 24 131071) HT_ ?_
        refine take_ (i := 17) (N := some 57) (v := ?_) (a' := ?_) (bm 24 262143) rfl rfl (take_ofW HT_.out HW_.out qz) iz (Or.inl ⟨by rfl, ?_⟩) hHeld ?_ ?_
        rotate_left; (rintro w' ⟨s0, s1, s2, s3, s4, s5, s6, s7⟩; go_simp; with_reducible rfl); rotate_left; (simp only [Act.put, aS, lZ, lS, i64_w, i32_w]; rfl)
        refine one_ (i := 18) (N := some 58) (bm 24 524287) rfl rfl (one_of HT_.out qz) (by decide) (fun K hK => ?_)
        refine goes_ Try.func33 qz rfl #[.agg #[.int .i64 x0, .int .i64 x1], .agg #[.int .i64 y0, .int .i64 y1]] (by rfl) rfl rfl mz ?_
        with_reducible refine (geom_Dist2.calls k x0 x1 y0 y1 dd de _ hdd.out).mono ?_
        rintro e W2 ⟨rfl, hb⟩
        refine ⟨_, rfl, ?_⟩
        have hb2 : Below W.heap.size W W2 := (below_drew1 (Below.refl _ W)).trans hb
        refine hK.out _ _ ⟨cb hb2 k4, cb hb2 k7, cb hb2 ha0, cb hb2 hx0, cb hb2 hx1, cb hb2 hb0, cb hb2 hy0, cb hb2 hy1⟩ (fun hHeld => ?_)
        clear hK K
        refine norm_ (a' := ?_) ?_ ?_
        rotate_left; (show Act.put _ (some 58) _ = _; simp only [Act.put, aS, lZ, lS, i64_w, i32_w]; rfl)
        refine pa (i := 19) (N := some 39) (bm 24 1048575) HT_ ?_
        refine pa (i := 20) (N := some 59) (bm 24 2097151) HT_ ?_
        refine pa (i := 21) (N := some 60) (bm 24 4194303) HT_ ?_
        refine pa (i := 22) (N := some 14) (bm 24 8388607) HT_ ?_
        refine pa (i := 23) (N := some 15) (bm 24 16777215) HT_ ?_
        refine done_ (done_of HT_.out qz) ?_
        have e11 : W2.cell? ⟨g11, 0, none⟩ = some (.int .i64 acc) := cb hb2 I11.out.cell
        have f11 : W2.frozen? ⟨g11, 0, none⟩ = false := (show Boxed W2 g11 3 _ from blk_below I11.out hb2).frozen
        clear HT_ HW_ hHeld
        have B11 := am (show Boxed W2 g11 3 (.int .i64 acc) from blk_below I11.out hb2)
        have B4 := am (show Boxed W2 g4 22 (.slice (some ad0) l0.length c0) from blk_below I4.out hb2)
        have B7 := am (show Boxed W2 g7 3 (.int .i64 a3) from blk_below I7.out hb2)
        have HKO := am (collide_pairs.keeps_bel hb2)
        have HKP := am (collide_pairs.kp_below (B := w5.heap.size) hb2)
        have HB2 := am (hBW.trans (hb2.mono hBW.size))
        have hset := fun v => collide_pairs.kp_set (B := w5.heap.size) (g := g11) (by have := hn5 g11 (.inr (.inr rfl)); omega) W2 v
        by_cases ca : acc < 0
        · gi_wp2
          exact ⟨(HKO.out.trans (KeepsOthers.setCell _ _ _)).from _, collide_pairs.kp_t HKP.out (hset _), ⟨⟨by (try rw [← List.map_map]); rw [HJ.out, collide_Room.less, if_pos (.inl ca)]; exact B11.out.set _, B4.out.other N4.out _⟩, B7.out.other N7.out _⟩, HB2.out.setCell (p := ⟨g11, 0, none⟩) GE11.out _⟩
        · by_cases cl : D (a, b) < acc
          · gi_wp2
            exact ⟨(HKO.out.trans (KeepsOthers.setCell _ _ _)).from _, collide_pairs.kp_t HKP.out (hset _), ⟨⟨by (try rw [← List.map_map]); rw [HJ.out, collide_Room.less, if_pos (.inr cl)]; exact B11.out.set _, B4.out.other N4.out _⟩, B7.out.other N7.out _⟩, HB2.out.setCell (p := ⟨g11, 0, none⟩) GE11.out _⟩
          · gi_wp2
            exact ⟨HKO.out.from _, HKP.out, ⟨⟨by (try rw [← List.map_map]); rw [HJ.out, collide_Room.less, if_neg (by omega)]; exact B11.out, B4.out⟩, B7.out⟩, HB2.out⟩
      · rw [if_neg hc] at hDq
        cases hDq
    case done =>
      rintro Dd ys W hD rfl ⟨⟨⟨i11, i4⟩, i7⟩, hBW⟩ hK
      rw [collide_pairs.cl_id l0.length (collide_pairs.prs collide_pairs.mk l0.length) (fun p hp => collide_pairs.prs_mem hp)] at i11
      have e11 := i11.cell
      have HK0 := am hK
      clear hK i11
      go_wp2
      (try rw [Exit.noGoto_ret])
      refine ⟨by simp, .inl ⟨_, _, rfl, run_takeDeferred HK0.out, ?_⟩⟩
      refine ⟨.tuple #[.int .i64 (((collide_pairs.prs collide_pairs.mk l0.length).map D).foldl collide_Room.less (-1)), .int .i64 0], by simp [results, Try.f17, go_sem], rfl, ?_⟩
      exact hBW.trans (belowK_b (w := w6) hb6.size _ Dd _ _ hD HK0.out rfl rfl)
    case stop => exact fun _ _ _ _ _ _ h _ => h.elim
end
theorem collide_Room.calls (k : Nat) (A0 : Option Addr) (c0 : Nat) (l0 : List S43) (A1 : Option Addr) (c1 : Nat) (l1 : List Int) (A2 : Option Addr) (c2 : Nat) (l2 : List S62) (a3 r1 r2 : Int) (w : World) (hr0 : Kd.C k43 w A0 l0.length l0) (hc0 : l0.length ≤ c0) (hr1 : Kd.C (Kd.int .i64) w A1 l1.length l1) (hc1 : l1.length ≤ c1) (hr2 : Kd.C k62 w A2 l2.length l2) (hc2 : l2.length ≤ c2) (h : collide_Room.f k l0 l1 l2 a3 = some (r1, r2)) :
    Calls Try.prog 17 #[.slice A0 l0.length c0, .slice A1 l1.length c1, .slice A2 l2.length c2, .int .i64 a3] w fun e w' => e = .returned (.tuple #[.int .i64 r1, .int .i64 r2]) ∧ Below w.heap.size w w' := by
  unfold collide_Room.f at h
  obtain ⟨e, he, h⟩ := Option.bind_eq_some_iff.1 h
  by_cases ez : e = 0
  · subst ez
    rw [if_pos rfl] at h
    by_cases h2 : (l0.length : Int) < 2
    · rw [if_pos h2] at h
      cases h
      exact collide_Room.leaf1 k A0 c0 l0 A1 c1 l1 A2 c2 l2 a3 w ⟨hr0⟩ hc0 ⟨hr1⟩ hc1 ⟨hr2⟩ hc2 ⟨he⟩ (decide_eq_true h2)
    · rw [if_neg h2] at h
      by_cases h3 : a3 < 0
      · rw [if_pos h3] at h
        cases h
        exact collide_Room.leaf2 k A0 c0 l0 A1 c1 l1 A2 c2 l2 a3 w ⟨hr0⟩ hc0 ⟨hr1⟩ hc1 ⟨hr2⟩ hc2 ⟨he⟩ (decide_eq_false h2) (decide_eq_true h3)
      · rw [if_neg h3] at h
        obtain ⟨nn, hn, h⟩ := Option.bind_eq_some_iff.1 h
        by_cases h4 : nn < a3
        · rw [if_pos h4] at h
          cases h
          exact collide_Room.leaf3 k A0 c0 l0 A1 c1 l1 A2 c2 l2 a3 w ⟨hr0⟩ hc0 ⟨hr1⟩ hc1 ⟨hr2⟩ hc2 ⟨he⟩ (decide_eq_false h2) (decide_eq_false h3) ⟨hn⟩ (decide_eq_true h4)
        · rw [if_neg h4] at h
          by_cases hm : l0.length ≤ 1000000
          · rw [if_pos hm] at h
            obtain ⟨d, hd, h⟩ := Option.bind_eq_some_iff.1 h
            cases h
            rw [collide_pairs.all_get hd 0]
            exact collide_Room.leaf4 k A0 c0 l0 A1 c1 l1 A2 c2 l2 a3 w ⟨hr0⟩ hc0 ⟨hr1⟩ hc1 ⟨hr2⟩ hc2 ⟨he⟩ (decide_eq_false h2) (decide_eq_false h3) ⟨hn⟩ (decide_eq_false h4) hm _ ⟨fun p hp => by
              obtain ⟨y, hy⟩ := collide_pairs.all_at hd p (collide_pairs.mem_prs hp.1 hp.2)
              rw [hy]
              rfl⟩
          · rw [if_neg hm] at h
            cases h
  · rw [if_neg ez] at h
    cases h
    exact collide_Room.leaf0 k A0 c0 l0 A1 c1 l1 A2 c2 l2 a3 r2 w ⟨hr0⟩ hc0 ⟨hr1⟩ hc1 ⟨hr2⟩ hc2 ⟨he⟩ (by simpa using ez) (by simpa using ez)

end Go.Proofs.Yteflngoiebgdaaa.X
