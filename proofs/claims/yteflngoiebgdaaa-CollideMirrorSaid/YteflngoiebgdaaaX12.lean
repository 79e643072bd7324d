import Derived.Test.YteflngoiebgdaaaX0
namespace Go.Proofs.Yteflngoiebgdaaa.X
open Go.RowKit YteflngoiebgdaaaW.PrintWords YteflngoiebgdaaaW.PrintLast YteflngoiebgdaaaW.PrintMore
attribute [local go_sem] max2_int min2_int max_two min_two max_three min_three max_four min_four
set_option linter.unusedVariables false
set_option linter.unusedSimpArgs false

/-! ### geom_valid: function 52 -/
mutual
def geom_valid.l0 : Nat → List Int → List (S49) → Int → Int → Option (Bool)
 | 0, _, _, _, _ => none
 | k + 1, x1, x9, x10, x11 => if x11 < x10 then (if 0 ≤ x11 then (if x11 < (x9.length : Int) then (if ((rd_T49 x9 x11).f0) < (-32768) then (some false) else (if ((rd_T49 x9 x11).f0) > 32768 then (some false) else (if ((rd_T49 x9 x11).f1) < (-32768) then (some false) else (if ((rd_T49 x9 x11).f1) > 32768 then (some false) else (geom_valid.l0 k x1 x9 x10 (wrap64 (x11 + 1))))))) else (none)) else (none)) else (geom_valid.l1 k x1 (x1.length : Int) 0)
def geom_valid.l1 : Nat → List Int → Int → Int → Option (Bool)
 | 0, _, _, _ => none
 | k + 1, x34, x35, x36 => if x36 < x35 then (if 0 ≤ x36 then (if x36 < (x34.length : Int) then (if (rd x34 x36) < 0 then (some false) else (if (rd x34 x36) > 32768 then (some false) else (geom_valid.l1 k x34 x35 (wrap64 (x36 + 1))))) else (none)) else (none)) else (some true)
end
def geom_valid.f (k : Nat) (l0 : List (S49)) (l1 : List Int) : Option (Bool) := geom_valid.l0 k l1 l0 (l0.length : Int) 0
theorem geom_valid.mono_l : ∀ k, (∀ y0 y1 y2 y3, LeO (geom_valid.l0 k y0 y1 y2 y3) (geom_valid.l0 (k + 1) y0 y1 y2 y3)) ∧ (∀ y0 y1 y2, LeO (geom_valid.l1 k y0 y1 y2) (geom_valid.l1 (k + 1) y0 y1 y2))
 | 0 => ⟨fun _ _ _ _ r h => by simp [geom_valid.l0] at h, fun _ _ _ r h => by simp [geom_valid.l1] at h⟩
 | k + 1 => by
  obtain ⟨ih0, ih1⟩ := geom_valid.mono_l k
  refine ⟨?_, ?_⟩
  ·
   intro y0 y1 y2 y3
   unfold geom_valid.l0
   repeat' first
   | (with_reducible exact ih0 _ _ _ _)
   | (with_reducible exact ih1 _ _ _)
   | (with_reducible exact LeO.refl _)
   | (with_reducible exact LeO.none _)
   | (with_reducible refine LeO.ite ?_ ?_)
   | (with_reducible refine LeO.bind ?_ (fun _ => ?_))
   | exact ih0 _ _ _ _
   | exact ih1 _ _ _
   | exact LeO.none _
   | refine LeO.ite ?_ ?_
   | refine LeO.bind ?_ (fun _ => ?_)
  ·
   intro y0 y1 y2
   unfold geom_valid.l1
   repeat' first
   | (with_reducible exact ih0 _ _ _ _)
   | (with_reducible exact ih1 _ _ _)
   | (with_reducible exact LeO.refl _)
   | (with_reducible exact LeO.none _)
   | (with_reducible refine LeO.ite ?_ ?_)
   | (with_reducible refine LeO.bind ?_ (fun _ => ?_))
   | exact ih0 _ _ _ _
   | exact ih1 _ _ _
   | exact LeO.none _
   | refine LeO.ite ?_ ?_
   | refine LeO.bind ?_ (fun _ => ?_)
theorem geom_valid.mono : ∀ a0 a1 k, LeO (geom_valid.f k a0 a1) (geom_valid.f (k + 1) a0 a1) := by
 intro a0 a1 k
 obtain ⟨ih0, ih1⟩ := geom_valid.mono_l k
 unfold geom_valid.f
 repeat' first
   | (with_reducible exact ih0 _ _ _ _)
   | (with_reducible exact ih1 _ _ _)
   | (with_reducible exact LeO.refl _)
   | (with_reducible exact LeO.none _)
   | (with_reducible refine LeO.ite ?_ ?_)
   | (with_reducible refine LeO.bind ?_ (fun _ => ?_))
   | exact ih0 _ _ _ _
   | exact ih1 _ _ _
   | exact LeO.none _
   | refine LeO.ite ?_ ?_
   | refine LeO.bind ?_ (fun _ => ?_)
set_option maxHeartbeats 8000000 in
set_option maxRecDepth 100000 in
theorem geom_valid.calls (k : Nat) (A0 : Option Addr) (c0 : Nat) (l0 : List (S49)) (A1 : Option Addr) (c1 : Nat) (l1 : List Int) (r : Bool) (w : World) (hr0 : Kd.C k49 w A0 l0.length l0) (hc0 : l0.length ≤ c0) (hr1 : Kd.C (Kd.int .i64) w A1 l1.length l1) (hc1 : l1.length ≤ c1) (h : geom_valid.f k l0 l1 = some r) :
  Calls Try.prog 52 #[.slice A0 l0.length c0, .slice A1 l1.length c1] w fun e w' => e = .returned (.bool r) ∧ Below w.heap.size w w' := by
 have hu49 := Try.underlying49
 have HR0 := am hr0
 have HC0 := am hc0
 clear hr0 hc0
 have HR1 := am hr1
 have HC1 := am hc1
 clear hr1 hc1
 have HB := am (Below.refl w.heap.size w)
 have H : (geom_valid.l0 k l1 l0 (l0.length : Int) 0) = some r := h
 clear h
 have H' := am H
 clear H
 go_enter Try.func52, Try.ntmps52
 go_wp2
 go_loopg [11] k (fun kq v11 w' => ∃ (x11_1 : Int), v11 = .int .i64 x11_1 ∧ Aside0 (geom_valid.l0 kq l1 l0 (l0.length : Int) x11_1 = some r) ∧ Aside0 (kq ≤ k) ∧ Aside0 (Below w.heap.size w w'))
 case atStart => exact ⟨(0), sz, H', ⟨Nat.le_refl _⟩, ⟨bz⟩⟩
 case round =>
  clear H'
  try clear c1
  try clear p2
  obtain ⟨x11_1, rfl, HA, HK1, HB⟩ := hrel
  cases gk with
  | zero => exact absurd HA.out (by simp [geom_valid.l0])
  | succ k1 =>
   have H := HA.out
   clear HA
   simp only [geom_valid.l0] at H
   by_cases c3 : x11_1 < (l0.length : Int)
   ·
    rw [if_pos c3] at H
    have c3b0 := decide_eq_true c3
    clear c3
    by_cases c4 : 0 ≤ x11_1; rotate_left
    · rw [if_neg c4] at H; exact absurd H (by simp)
    rw [if_pos c4] at H
    have c4b0 := decide_eq_true c4
    clear c4
    by_cases c5 : x11_1 < (l0.length : Int); rotate_left
    · rw [if_neg c5] at H; exact absurd H (by simp)
    rw [if_pos c5] at H
    have c5b0 := decide_eq_true c5
    clear c5
    by_cases c6 : ((rd_T49 l0 x11_1).f0) < (-32768)
    ·
     rw [if_pos c6] at H
     have c6b0 := decide_eq_true c6
     clear c6
     obtain rfl := Option.some.inj H
     have p124 : 0 ≤ (x11_1 : Int) := az
     have q124 : x11_1 < (l0.length : Int) := az
     obtain ⟨ad124, e124, hx124_0, hx124_1⟩ := at_T49 HR0.out x11_1 p124 q124
     cases e124
     replace hx124_0 := cb HB.out hx124_0
     replace hx124_1 := cb HB.out hx124_1
     replace p124 := eq_true p124
     replace q124 := eq_true q124
     go_wp2_with (first | ((with_reducible refine gate_dst (N := 6) rfl ?_); refine box_event yz (N := 6) yz (cs := #[.int .i64 0, .int .i64 0]) (t := 49) gz ?_; intro gb125 hg w7 hbox hb; have BK125 := am (hbox); have GW125 := gwz (g := gb125) HB hg; have GE125 := GW125; replace HB := am (below_step bz hb); clear hb hbox hg; obtain ⟨hcz8_0, hcz8_1, hfz8_0, hfz8_1⟩ := kc2 BK125.out))
     go_ret
     exact ⟨ez, bz⟩
    ·
     rw [if_neg c6] at H
     have c6b0 := decide_eq_false c6
     clear c6
     by_cases c9 : ((rd_T49 l0 x11_1).f0) > 32768
     ·
      rw [if_pos c9] at H
      have c9b0 := decide_eq_true c9
      clear c9
      obtain rfl := Option.some.inj H
      have p124 : 0 ≤ (x11_1 : Int) := az
      have q124 : x11_1 < (l0.length : Int) := az
      obtain ⟨ad124, e124, hx124_0, hx124_1⟩ := at_T49 HR0.out x11_1 p124 q124
      cases e124
      replace hx124_0 := cb HB.out hx124_0
      replace hx124_1 := cb HB.out hx124_1
      replace p124 := eq_true p124
      replace q124 := eq_true q124
      go_wp2_with (first | ((with_reducible refine gate_dst (N := 6) rfl ?_); refine box_event yz (N := 6) yz (cs := #[.int .i64 0, .int .i64 0]) (t := 49) gz ?_; intro gb125 hg w10 hbox hb; have BK125 := am (hbox); have GW125 := gwz (g := gb125) HB hg; have GE125 := GW125; replace HB := am (below_step bz hb); clear hb hbox hg; obtain ⟨hcz11_0, hcz11_1, hfz11_0, hfz11_1⟩ := kc2 BK125.out))
      go_ret
      exact ⟨ez, bz⟩
     ·
      rw [if_neg c9] at H
      have c9b0 := decide_eq_false c9
      clear c9
      by_cases c12 : ((rd_T49 l0 x11_1).f1) < (-32768)
      ·
       rw [if_pos c12] at H
       have c12b0 := decide_eq_true c12
       clear c12
       obtain rfl := Option.some.inj H
       have p124 : 0 ≤ (x11_1 : Int) := az
       have q124 : x11_1 < (l0.length : Int) := az
       obtain ⟨ad124, e124, hx124_0, hx124_1⟩ := at_T49 HR0.out x11_1 p124 q124
       cases e124
       replace hx124_0 := cb HB.out hx124_0
       replace hx124_1 := cb HB.out hx124_1
       replace p124 := eq_true p124
       replace q124 := eq_true q124
       go_wp2_with (first | ((with_reducible refine gate_dst (N := 6) rfl ?_); refine box_event yz (N := 6) yz (cs := #[.int .i64 0, .int .i64 0]) (t := 49) gz ?_; intro gb125 hg w13 hbox hb; have BK125 := am (hbox); have GW125 := gwz (g := gb125) HB hg; have GE125 := GW125; replace HB := am (below_step bz hb); clear hb hbox hg; obtain ⟨hcz14_0, hcz14_1, hfz14_0, hfz14_1⟩ := kc2 BK125.out))
       go_ret
       exact ⟨ez, bz⟩
      ·
       rw [if_neg c12] at H
       have c12b0 := decide_eq_false c12
       clear c12
       by_cases c15 : ((rd_T49 l0 x11_1).f1) > 32768
       ·
        rw [if_pos c15] at H
        have c15b0 := decide_eq_true c15
        clear c15
        obtain rfl := Option.some.inj H
        have p124 : 0 ≤ (x11_1 : Int) := az
        have q124 : x11_1 < (l0.length : Int) := az
        obtain ⟨ad124, e124, hx124_0, hx124_1⟩ := at_T49 HR0.out x11_1 p124 q124
        cases e124
        replace hx124_0 := cb HB.out hx124_0
        replace hx124_1 := cb HB.out hx124_1
        replace p124 := eq_true p124
        replace q124 := eq_true q124
        go_wp2_with (first | ((with_reducible refine gate_dst (N := 6) rfl ?_); refine box_event yz (N := 6) yz (cs := #[.int .i64 0, .int .i64 0]) (t := 49) gz ?_; intro gb125 hg w16 hbox hb; have BK125 := am (hbox); have GW125 := gwz (g := gb125) HB hg; have GE125 := GW125; replace HB := am (below_step bz hb); clear hb hbox hg; obtain ⟨hcz17_0, hcz17_1, hfz17_0, hfz17_1⟩ := kc2 BK125.out))
        go_ret
        exact ⟨ez, bz⟩
       ·
        rw [if_neg c15] at H
        have c15b0 := decide_eq_false c15
        clear c15
        have H' := am H
        clear H
        have p124 : 0 ≤ (x11_1 : Int) := az
        have q124 : x11_1 < (l0.length : Int) := az
        obtain ⟨ad124, e124, hx124_0, hx124_1⟩ := at_T49 HR0.out x11_1 p124 q124
        cases e124
        replace hx124_0 := cb HB.out hx124_0
        replace hx124_1 := cb HB.out hx124_1
        replace p124 := eq_true p124
        replace q124 := eq_true q124
        go_wp2_with (first | ((with_reducible refine gate_dst (N := 6) rfl ?_); refine box_event yz (N := 6) yz (cs := #[.int .i64 0, .int .i64 0]) (t := 49) gz ?_; intro gb125 hg w18 hbox hb; have BK125 := am (hbox); have GW125 := gwz (g := gb125) HB hg; have GE125 := GW125; replace HB := am (below_step bz hb); clear hb hbox hg; obtain ⟨hcz19_0, hcz19_1, hfz19_0, hfz19_1⟩ := kc2 BK125.out))
        go_roundg k1
        case measure => have := HK1.out; omega
        case rel => exact ⟨(wrap64 (x11_1 + 1)), sz, H', ⟨by have := HK1.out; omega⟩, ⟨bz⟩⟩
   ·
    rw [if_neg c3] at H
    have c3b0 := decide_eq_false c3
    clear c3
    have H' := am H
    clear H
    go_wp2
    go_loopg [36] k1 (fun kq v36 w' => ∃ (x36_2 : Int), v36 = .int .i64 x36_2 ∧ Aside0 (geom_valid.l1 kq l1 (l1.length : Int) x36_2 = some r) ∧ Aside0 (kq ≤ k1) ∧ Aside0 (Below w.heap.size w w'))
    case atStart => exact ⟨(0), sz, H', ⟨Nat.le_refl _⟩, ⟨bz⟩⟩
    case round =>
     clear H'
     try clear c1
     try clear p1
     try clear q1
     try clear hx1
     try clear p2
     try clear c3
     try clear c3b0
     try clear c4
     try clear c4b0
     try clear c5
     try clear c5b0
     try clear c6
     try clear c6b0
     try clear p6
     try clear c9
     try clear c9b0
     try clear c12
     try clear c12b0
     try clear p12
     try clear q12
     try clear hx12
     try clear c15
     try clear c15b0
     try clear hcz11_0
     try clear hcz11_1
     try clear hcz14_0
     try clear hcz14_1
     try clear hcz17_0
     try clear hcz17_1
     try clear hcz19_0
     try clear hcz19_1
     try clear hcz8_0
     try clear hcz8_1
     try clear hfz11_0
     try clear hfz11_1
     try clear hfz14_0
     try clear hfz14_1
     try clear hfz17_0
     try clear hfz17_1
     try clear hfz19_0
     try clear hfz19_1
     try clear hfz8_0
     try clear hfz8_1
     try clear hx124_0
     try clear hx124_1
     try clear p124
     try clear p2
     try clear q124
     obtain ⟨x36_2, rfl, HA, HK2, HB⟩ := hrel
     cases gk with
     | zero => exact absurd HA.out (by simp [geom_valid.l1])
     | succ k2 =>
      have H := HA.out
      clear HA
      simp only [geom_valid.l1] at H
      by_cases c20 : x36_2 < (l1.length : Int)
      ·
       rw [if_pos c20] at H
       have c20b0 := decide_eq_true c20
       clear c20
       by_cases c21 : 0 ≤ x36_2; rotate_left
       · rw [if_neg c21] at H; exact absurd H (by simp)
       rw [if_pos c21] at H
       have c21b0 := decide_eq_true c21
       clear c21
       by_cases c22 : x36_2 < (l1.length : Int); rotate_left
       · rw [if_neg c22] at H; exact absurd H (by simp)
       rw [if_pos c22] at H
       have c22b0 := decide_eq_true c22
       clear c22
       by_cases c23 : (rd l1 x36_2) < 0
       ·
        rw [if_pos c23] at H
        have c23b0 := decide_eq_true c23
        clear c23
        obtain rfl := Option.some.inj H
        have p126 : 0 ≤ (x36_2 : Int) := az
        have q126 : x36_2 < (l1.length : Int) := az
        obtain ⟨ad126, e126, hx126_0⟩ := Kd.at_int HR1.out x36_2 p126 q126
        cases e126
        replace hx126_0 := cb HB.out hx126_0
        replace p126 := eq_true p126
        replace q126 := eq_true q126
        go_wp2
        go_ret
        exact ⟨ez, bz⟩
       ·
        rw [if_neg c23] at H
        have c23b0 := decide_eq_false c23
        clear c23
        by_cases c24 : (rd l1 x36_2) > 32768
        ·
         rw [if_pos c24] at H
         have c24b0 := decide_eq_true c24
         clear c24
         obtain rfl := Option.some.inj H
         have p126 : 0 ≤ (x36_2 : Int) := az
         have q126 : x36_2 < (l1.length : Int) := az
         obtain ⟨ad126, e126, hx126_0⟩ := Kd.at_int HR1.out x36_2 p126 q126
         cases e126
         replace hx126_0 := cb HB.out hx126_0
         replace p126 := eq_true p126
         replace q126 := eq_true q126
         go_wp2
         go_ret
         exact ⟨ez, bz⟩
        ·
         rw [if_neg c24] at H
         have c24b0 := decide_eq_false c24
         clear c24
         have H' := am H
         clear H
         have p126 : 0 ≤ (x36_2 : Int) := az
         have q126 : x36_2 < (l1.length : Int) := az
         obtain ⟨ad126, e126, hx126_0⟩ := Kd.at_int HR1.out x36_2 p126 q126
         cases e126
         replace hx126_0 := cb HB.out hx126_0
         replace p126 := eq_true p126
         replace q126 := eq_true q126
         go_wp2
         go_roundg k2
         case measure => have := HK1.out; have := HK2.out; omega
         case rel => exact ⟨(wrap64 (x36_2 + 1)), sz, H', ⟨by have := HK1.out; have := HK2.out; omega⟩, ⟨bz⟩⟩
      ·
       rw [if_neg c20] at H
       have c20b0 := decide_eq_false c20
       clear c20
       obtain rfl := Option.some.inj H
       go_wp2
       go_ret
       exact ⟨ez, bz⟩

end Go.Proofs.Yteflngoiebgdaaa.X
