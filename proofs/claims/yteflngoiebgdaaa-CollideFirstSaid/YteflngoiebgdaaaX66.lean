import Derived.Test.YteflngoiebgdaaaX0
namespace Go.Proofs.Yteflngoiebgdaaa.X
open Go.RowKit YteflngoiebgdaaaW.PrintWords YteflngoiebgdaaaW.PrintLast YteflngoiebgdaaaW.PrintMore
attribute [local go_sem] max2_int min2_int max_two min_two max_three min_three max_four min_four
set_option linter.unusedVariables false
set_option linter.unusedSimpArgs false

/-! ### dancestudiolaw44_partners: function 23 -/
def dancestudiolaw44_partners.l0 : Nat → List (S62) → Int → Int → Int → Int → Option (Bool)
 | 0, _, _, _, _, _ => none
 | k + 1, x0, x1, x2, x3, x9 => if x9 < (x0.length : Int) then (if 0 ≤ x9 then (if ((rd_T62 x0 x9).f0) = x1 then (if ((rd_T62 x0 x9).f2) = x2 then (if ((rd_T62 x0 x9).f4.f0) ≤ x3 then (if x3 < ((rd_T62 x0 x9).f4.f1) then (some true) else (if ((rd_T62 x0 x9).f4.f0) ≤ (wrap64 (x3 + 1)) then (if (wrap64 (x3 + 1)) < ((rd_T62 x0 x9).f4.f1) then (some true) else (dancestudiolaw44_partners.l0 k x0 x1 x2 x3 (wrap64 (x9 + 1)))) else (dancestudiolaw44_partners.l0 k x0 x1 x2 x3 (wrap64 (x9 + 1))))) else (if ((rd_T62 x0 x9).f4.f0) ≤ (wrap64 (x3 + 1)) then (if (wrap64 (x3 + 1)) < ((rd_T62 x0 x9).f4.f1) then (some true) else (dancestudiolaw44_partners.l0 k x0 x1 x2 x3 (wrap64 (x9 + 1)))) else (dancestudiolaw44_partners.l0 k x0 x1 x2 x3 (wrap64 (x9 + 1))))) else (if ((rd_T62 x0 x9).f0) = x2 then (if ((rd_T62 x0 x9).f2) = x1 then (if ((rd_T62 x0 x9).f4.f0) ≤ x3 then (if x3 < ((rd_T62 x0 x9).f4.f1) then (some true) else (if ((rd_T62 x0 x9).f4.f0) ≤ (wrap64 (x3 + 1)) then (if (wrap64 (x3 + 1)) < ((rd_T62 x0 x9).f4.f1) then (some true) else (dancestudiolaw44_partners.l0 k x0 x1 x2 x3 (wrap64 (x9 + 1)))) else (dancestudiolaw44_partners.l0 k x0 x1 x2 x3 (wrap64 (x9 + 1))))) else (if ((rd_T62 x0 x9).f4.f0) ≤ (wrap64 (x3 + 1)) then (if (wrap64 (x3 + 1)) < ((rd_T62 x0 x9).f4.f1) then (some true) else (dancestudiolaw44_partners.l0 k x0 x1 x2 x3 (wrap64 (x9 + 1)))) else (dancestudiolaw44_partners.l0 k x0 x1 x2 x3 (wrap64 (x9 + 1))))) else (dancestudiolaw44_partners.l0 k x0 x1 x2 x3 (wrap64 (x9 + 1)))) else (dancestudiolaw44_partners.l0 k x0 x1 x2 x3 (wrap64 (x9 + 1))))) else (if ((rd_T62 x0 x9).f0) = x2 then (if ((rd_T62 x0 x9).f2) = x1 then (if ((rd_T62 x0 x9).f4.f0) ≤ x3 then (if x3 < ((rd_T62 x0 x9).f4.f1) then (some true) else (if ((rd_T62 x0 x9).f4.f0) ≤ (wrap64 (x3 + 1)) then (if (wrap64 (x3 + 1)) < ((rd_T62 x0 x9).f4.f1) then (some true) else (dancestudiolaw44_partners.l0 k x0 x1 x2 x3 (wrap64 (x9 + 1)))) else (dancestudiolaw44_partners.l0 k x0 x1 x2 x3 (wrap64 (x9 + 1))))) else (if ((rd_T62 x0 x9).f4.f0) ≤ (wrap64 (x3 + 1)) then (if (wrap64 (x3 + 1)) < ((rd_T62 x0 x9).f4.f1) then (some true) else (dancestudiolaw44_partners.l0 k x0 x1 x2 x3 (wrap64 (x9 + 1)))) else (dancestudiolaw44_partners.l0 k x0 x1 x2 x3 (wrap64 (x9 + 1))))) else (dancestudiolaw44_partners.l0 k x0 x1 x2 x3 (wrap64 (x9 + 1)))) else (dancestudiolaw44_partners.l0 k x0 x1 x2 x3 (wrap64 (x9 + 1))))) else (none)) else (some false)
def dancestudiolaw44_partners.f (k : Nat) (l0 : List (S62)) (a1 a2 a3 : Int) : Option (Bool) := dancestudiolaw44_partners.l0 k l0 a1 a2 a3 0
theorem dancestudiolaw44_partners.mono_l : ∀ k, (∀ y0 y1 y2 y3 y4, LeO (dancestudiolaw44_partners.l0 k y0 y1 y2 y3 y4) (dancestudiolaw44_partners.l0 (k + 1) y0 y1 y2 y3 y4))
 | 0 => fun _ _ _ _ _ r h => by simp [dancestudiolaw44_partners.l0] at h
 | k + 1 => by
  have ih0 := dancestudiolaw44_partners.mono_l k
  ·
   intro y0 y1 y2 y3 y4
   unfold dancestudiolaw44_partners.l0
   repeat' first
   | (with_reducible exact ih0 _ _ _ _ _)
   | (with_reducible exact LeO.refl _)
   | (with_reducible exact LeO.none _)
   | (with_reducible refine LeO.ite ?_ ?_)
   | (with_reducible refine LeO.bind ?_ (fun _ => ?_))
   | exact ih0 _ _ _ _ _
   | exact LeO.none _
   | refine LeO.ite ?_ ?_
   | refine LeO.bind ?_ (fun _ => ?_)
theorem dancestudiolaw44_partners.mono : ∀ a0 a1 a2 a3 k, LeO (dancestudiolaw44_partners.f k a0 a1 a2 a3) (dancestudiolaw44_partners.f (k + 1) a0 a1 a2 a3) := by
 intro a0 a1 a2 a3 k
 have ih0 := dancestudiolaw44_partners.mono_l k
 unfold dancestudiolaw44_partners.f
 repeat' first
   | (with_reducible exact ih0 _ _ _ _ _)
   | (with_reducible exact LeO.refl _)
   | (with_reducible exact LeO.none _)
   | (with_reducible refine LeO.ite ?_ ?_)
   | (with_reducible refine LeO.bind ?_ (fun _ => ?_))
   | exact ih0 _ _ _ _ _
   | exact LeO.none _
   | refine LeO.ite ?_ ?_
   | refine LeO.bind ?_ (fun _ => ?_)
set_option maxHeartbeats 8000000 in
set_option maxRecDepth 100000 in
theorem dancestudiolaw44_partners.calls (k : Nat) (A0 : Option Addr) (c0 : Nat) (l0 : List (S62)) (a1 a2 a3 : Int) (r : Bool) (w : World) (hr0 : Kd.C k62 w A0 l0.length l0) (hc0 : l0.length ≤ c0) (h : dancestudiolaw44_partners.f k l0 a1 a2 a3 = some r) :
  Calls Try.prog 23 #[.slice A0 l0.length c0, .int .i64 a1, .int .i64 a2, .int .i64 a3] w fun e w' => e = .returned (.bool r) ∧ Below w.heap.size w w' := by
 have hu62 := Try.underlying62
 have HR0 := am hr0
 have HC0 := am hc0
 clear hr0 hc0
 have HB := am (Below.refl w.heap.size w)
 have H : (dancestudiolaw44_partners.l0 k l0 a1 a2 a3 0) = some r := h
 clear h
 have H' := am H
 clear H
 go_enter Try.func23, Try.ntmps23
 go_wp2
 go_loopg [9] k (fun kq v9 w' => ∃ (x9_1 : Int), v9 = .int .i64 x9_1 ∧ Aside0 (dancestudiolaw44_partners.l0 kq l0 a1 a2 a3 x9_1 = some r) ∧ Aside0 (kq ≤ k) ∧ Aside0 (Below w.heap.size w w'))
 case atStart => exact ⟨(0), sz, H', ⟨Nat.le_refl _⟩, ⟨bz⟩⟩
 case round =>
  clear H'
  try clear c2
  try clear p2
  obtain ⟨x9_1, rfl, HA, HK1, HB⟩ := hrel
  cases gk with
  | zero => exact absurd HA.out (by simp [dancestudiolaw44_partners.l0])
  | succ k1 =>
   have H := HA.out
   clear HA
   simp only [dancestudiolaw44_partners.l0] at H
   by_cases c5 : x9_1 < (l0.length : Int)
   ·
    rw [if_pos c5] at H
    have c5b0 := decide_eq_true c5
    clear c5
    by_cases c6 : 0 ≤ x9_1; rotate_left
    · rw [if_neg c6] at H; exact absurd H (by simp)
    rw [if_pos c6] at H
    have c6b0 := decide_eq_true c6
    clear c6
    by_cases c7 : ((rd_T62 l0 x9_1).f0) = a1
    ·
     rw [if_pos c7] at H
     have c7b0 : (((rd_T62 l0 x9_1).f0) == a1) = true := beq_iff_eq.mpr c7
     have c7b1 : (((rd_T62 l0 x9_1).f0) != a1) = false := bne_eq_false_iff_eq.mpr c7
     clear c7
     by_cases c8 : ((rd_T62 l0 x9_1).f2) = a2
     ·
      rw [if_pos c8] at H
      have c8b0 : (((rd_T62 l0 x9_1).f2) == a2) = true := beq_iff_eq.mpr c8
      have c8b1 : (((rd_T62 l0 x9_1).f2) != a2) = false := bne_eq_false_iff_eq.mpr c8
      clear c8
      by_cases c9 : ((rd_T62 l0 x9_1).f4.f0) ≤ a3
      ·
       rw [if_pos c9] at H
       have c9b0 := decide_eq_true c9
       clear c9
       by_cases c10 : a3 < ((rd_T62 l0 x9_1).f4.f1)
       ·
        rw [if_pos c10] at H
        have c10b0 := decide_eq_true c10
        clear c10
        obtain rfl := Option.some.inj H
        have p615 : 0 ≤ (x9_1 : Int) := az
        have q615 : x9_1 < (l0.length : Int) := az
        obtain ⟨ad615, e615, hx615_0, hx615_1, hx615_2, hx615_3, hx615_4, hx615_5⟩ := at_T62 HR0.out x9_1 p615 q615
        cases e615
        replace hx615_0 := cb HB.out hx615_0
        replace hx615_1 := cb HB.out hx615_1
        replace hx615_2 := cb HB.out hx615_2
        replace hx615_3 := cb HB.out hx615_3
        replace hx615_4 := cb HB.out hx615_4
        replace hx615_5 := cb HB.out hx615_5
        replace p615 := eq_true p615
        replace q615 := eq_true q615
        go_wp2_with (first | ((with_reducible refine gate_dst (N := 10) rfl ?_); refine box_event yz (N := 10) yz (cs := #[.int .i64 0, .int .i64 0, .int .i64 0, .int .i64 0, .int .i64 0, .int .i64 0]) (t := 62) gz ?_; intro gb616 hg w11 hbox hb; have BK616 := am (hbox); have GW616 := gwz (g := gb616) HB hg; have GE616 := GW616; replace HB := am (below_step bz hb); clear hb hbox hg; obtain ⟨hcz12_0, hcz12_1, hcz12_2, hcz12_3, hcz12_4, hcz12_5, hfz12_0, hfz12_1, hfz12_2, hfz12_3, hfz12_4, hfz12_5⟩ := kc6 BK616.out))
        go_ret
        exact ⟨ez, bz⟩
       ·
        rw [if_neg c10] at H
        have c10b0 := decide_eq_false c10
        clear c10
        by_cases c13 : ((rd_T62 l0 x9_1).f4.f0) ≤ (wrap64 (a3 + 1))
        ·
         rw [if_pos c13] at H
         have c13b0 := decide_eq_true c13
         clear c13
         by_cases c14 : (wrap64 (a3 + 1)) < ((rd_T62 l0 x9_1).f4.f1)
         ·
          rw [if_pos c14] at H
          have c14b0 := decide_eq_true c14
          clear c14
          obtain rfl := Option.some.inj H
          have p615 : 0 ≤ (x9_1 : Int) := az
          have q615 : x9_1 < (l0.length : Int) := az
          obtain ⟨ad615, e615, hx615_0, hx615_1, hx615_2, hx615_3, hx615_4, hx615_5⟩ := at_T62 HR0.out x9_1 p615 q615
          cases e615
          replace hx615_0 := cb HB.out hx615_0
          replace hx615_1 := cb HB.out hx615_1
          replace hx615_2 := cb HB.out hx615_2
          replace hx615_3 := cb HB.out hx615_3
          replace hx615_4 := cb HB.out hx615_4
          replace hx615_5 := cb HB.out hx615_5
          replace p615 := eq_true p615
          replace q615 := eq_true q615
          go_wp2_with (first | ((with_reducible refine gate_dst (N := 10) rfl ?_); refine box_event yz (N := 10) yz (cs := #[.int .i64 0, .int .i64 0, .int .i64 0, .int .i64 0, .int .i64 0, .int .i64 0]) (t := 62) gz ?_; intro gb616 hg w15 hbox hb; have BK616 := am (hbox); have GW616 := gwz (g := gb616) HB hg; have GE616 := GW616; replace HB := am (below_step bz hb); clear hb hbox hg; obtain ⟨hcz16_0, hcz16_1, hcz16_2, hcz16_3, hcz16_4, hcz16_5, hfz16_0, hfz16_1, hfz16_2, hfz16_3, hfz16_4, hfz16_5⟩ := kc6 BK616.out))
          go_ret
          exact ⟨ez, bz⟩
         ·
          rw [if_neg c14] at H
          have c14b0 := decide_eq_false c14
          clear c14
          have H' := am H
          clear H
          have p615 : 0 ≤ (x9_1 : Int) := az
          have q615 : x9_1 < (l0.length : Int) := az
          obtain ⟨ad615, e615, hx615_0, hx615_1, hx615_2, hx615_3, hx615_4, hx615_5⟩ := at_T62 HR0.out x9_1 p615 q615
          cases e615
          replace hx615_0 := cb HB.out hx615_0
          replace hx615_1 := cb HB.out hx615_1
          replace hx615_2 := cb HB.out hx615_2
          replace hx615_3 := cb HB.out hx615_3
          replace hx615_4 := cb HB.out hx615_4
          replace hx615_5 := cb HB.out hx615_5
          replace p615 := eq_true p615
          replace q615 := eq_true q615
          go_wp2_with (first | ((with_reducible refine gate_dst (N := 10) rfl ?_); refine box_event yz (N := 10) yz (cs := #[.int .i64 0, .int .i64 0, .int .i64 0, .int .i64 0, .int .i64 0, .int .i64 0]) (t := 62) gz ?_; intro gb616 hg w17 hbox hb; have BK616 := am (hbox); have GW616 := gwz (g := gb616) HB hg; have GE616 := GW616; replace HB := am (below_step bz hb); clear hb hbox hg; obtain ⟨hcz18_0, hcz18_1, hcz18_2, hcz18_3, hcz18_4, hcz18_5, hfz18_0, hfz18_1, hfz18_2, hfz18_3, hfz18_4, hfz18_5⟩ := kc6 BK616.out))
          go_roundg k1
          case measure => have := HK1.out; omega
          case rel => exact ⟨(wrap64 (x9_1 + 1)), sz, H', ⟨by have := HK1.out; omega⟩, ⟨bz⟩⟩
        ·
         rw [if_neg c13] at H
         have c13b0 := decide_eq_false c13
         clear c13
         have H' := am H
         clear H
         have p615 : 0 ≤ (x9_1 : Int) := az
         have q615 : x9_1 < (l0.length : Int) := az
         obtain ⟨ad615, e615, hx615_0, hx615_1, hx615_2, hx615_3, hx615_4, hx615_5⟩ := at_T62 HR0.out x9_1 p615 q615
         cases e615
         replace hx615_0 := cb HB.out hx615_0
         replace hx615_1 := cb HB.out hx615_1
         replace hx615_2 := cb HB.out hx615_2
         replace hx615_3 := cb HB.out hx615_3
         replace hx615_4 := cb HB.out hx615_4
         replace hx615_5 := cb HB.out hx615_5
         replace p615 := eq_true p615
         replace q615 := eq_true q615
         go_wp2_with (first | ((with_reducible refine gate_dst (N := 10) rfl ?_); refine box_event yz (N := 10) yz (cs := #[.int .i64 0, .int .i64 0, .int .i64 0, .int .i64 0, .int .i64 0, .int .i64 0]) (t := 62) gz ?_; intro gb616 hg w19 hbox hb; have BK616 := am (hbox); have GW616 := gwz (g := gb616) HB hg; have GE616 := GW616; replace HB := am (below_step bz hb); clear hb hbox hg; obtain ⟨hcz20_0, hcz20_1, hcz20_2, hcz20_3, hcz20_4, hcz20_5, hfz20_0, hfz20_1, hfz20_2, hfz20_3, hfz20_4, hfz20_5⟩ := kc6 BK616.out))
         go_roundg k1
         case measure => have := HK1.out; omega
         case rel => exact ⟨(wrap64 (x9_1 + 1)), sz, H', ⟨by have := HK1.out; omega⟩, ⟨bz⟩⟩
      ·
       rw [if_neg c9] at H
       have c9b0 := decide_eq_false c9
       clear c9
       by_cases c21 : ((rd_T62 l0 x9_1).f4.f0) ≤ (wrap64 (a3 + 1))
       ·
        rw [if_pos c21] at H
        have c21b0 := decide_eq_true c21
        clear c21
        by_cases c22 : (wrap64 (a3 + 1)) < ((rd_T62 l0 x9_1).f4.f1)
        ·
         rw [if_pos c22] at H
         have c22b0 := decide_eq_true c22
         clear c22
         obtain rfl := Option.some.inj H
         have p615 : 0 ≤ (x9_1 : Int) := az
         have q615 : x9_1 < (l0.length : Int) := az
         obtain ⟨ad615, e615, hx615_0, hx615_1, hx615_2, hx615_3, hx615_4, hx615_5⟩ := at_T62 HR0.out x9_1 p615 q615
         cases e615
         replace hx615_0 := cb HB.out hx615_0
         replace hx615_1 := cb HB.out hx615_1
         replace hx615_2 := cb HB.out hx615_2
         replace hx615_3 := cb HB.out hx615_3
         replace hx615_4 := cb HB.out hx615_4
         replace hx615_5 := cb HB.out hx615_5
         replace p615 := eq_true p615
         replace q615 := eq_true q615
         go_wp2_with (first | ((with_reducible refine gate_dst (N := 10) rfl ?_); refine box_event yz (N := 10) yz (cs := #[.int .i64 0, .int .i64 0, .int .i64 0, .int .i64 0, .int .i64 0, .int .i64 0]) (t := 62) gz ?_; intro gb616 hg w23 hbox hb; have BK616 := am (hbox); have GW616 := gwz (g := gb616) HB hg; have GE616 := GW616; replace HB := am (below_step bz hb); clear hb hbox hg; obtain ⟨hcz24_0, hcz24_1, hcz24_2, hcz24_3, hcz24_4, hcz24_5, hfz24_0, hfz24_1, hfz24_2, hfz24_3, hfz24_4, hfz24_5⟩ := kc6 BK616.out))
         go_ret
         exact ⟨ez, bz⟩
        ·
         rw [if_neg c22] at H
         have c22b0 := decide_eq_false c22
         clear c22
         have H' := am H
         clear H
         have p615 : 0 ≤ (x9_1 : Int) := az
         have q615 : x9_1 < (l0.length : Int) := az
         obtain ⟨ad615, e615, hx615_0, hx615_1, hx615_2, hx615_3, hx615_4, hx615_5⟩ := at_T62 HR0.out x9_1 p615 q615
         cases e615
         replace hx615_0 := cb HB.out hx615_0
         replace hx615_1 := cb HB.out hx615_1
         replace hx615_2 := cb HB.out hx615_2
         replace hx615_3 := cb HB.out hx615_3
         replace hx615_4 := cb HB.out hx615_4
         replace hx615_5 := cb HB.out hx615_5
         replace p615 := eq_true p615
         replace q615 := eq_true q615
         go_wp2_with (first | ((with_reducible refine gate_dst (N := 10) rfl ?_); refine box_event yz (N := 10) yz (cs := #[.int .i64 0, .int .i64 0, .int .i64 0, .int .i64 0, .int .i64 0, .int .i64 0]) (t := 62) gz ?_; intro gb616 hg w25 hbox hb; have BK616 := am (hbox); have GW616 := gwz (g := gb616) HB hg; have GE616 := GW616; replace HB := am (below_step bz hb); clear hb hbox hg; obtain ⟨hcz26_0, hcz26_1, hcz26_2, hcz26_3, hcz26_4, hcz26_5, hfz26_0, hfz26_1, hfz26_2, hfz26_3, hfz26_4, hfz26_5⟩ := kc6 BK616.out))
         go_roundg k1
         case measure => have := HK1.out; omega
         case rel => exact ⟨(wrap64 (x9_1 + 1)), sz, H', ⟨by have := HK1.out; omega⟩, ⟨bz⟩⟩
       ·
        rw [if_neg c21] at H
        have c21b0 := decide_eq_false c21
        clear c21
        have H' := am H
        clear H
        have p615 : 0 ≤ (x9_1 : Int) := az
        have q615 : x9_1 < (l0.length : Int) := az
        obtain ⟨ad615, e615, hx615_0, hx615_1, hx615_2, hx615_3, hx615_4, hx615_5⟩ := at_T62 HR0.out x9_1 p615 q615
        cases e615
        replace hx615_0 := cb HB.out hx615_0
        replace hx615_1 := cb HB.out hx615_1
        replace hx615_2 := cb HB.out hx615_2
        replace hx615_3 := cb HB.out hx615_3
        replace hx615_4 := cb HB.out hx615_4
        replace hx615_5 := cb HB.out hx615_5
        replace p615 := eq_true p615
        replace q615 := eq_true q615
        go_wp2_with (first | ((with_reducible refine gate_dst (N := 10) rfl ?_); refine box_event yz (N := 10) yz (cs := #[.int .i64 0, .int .i64 0, .int .i64 0, .int .i64 0, .int .i64 0, .int .i64 0]) (t := 62) gz ?_; intro gb616 hg w27 hbox hb; have BK616 := am (hbox); have GW616 := gwz (g := gb616) HB hg; have GE616 := GW616; replace HB := am (below_step bz hb); clear hb hbox hg; obtain ⟨hcz28_0, hcz28_1, hcz28_2, hcz28_3, hcz28_4, hcz28_5, hfz28_0, hfz28_1, hfz28_2, hfz28_3, hfz28_4, hfz28_5⟩ := kc6 BK616.out))
        go_roundg k1
        case measure => have := HK1.out; omega
        case rel => exact ⟨(wrap64 (x9_1 + 1)), sz, H', ⟨by have := HK1.out; omega⟩, ⟨bz⟩⟩
     ·
      rw [if_neg c8] at H
      have c8b0 : (((rd_T62 l0 x9_1).f2) == a2) = false := beq_eq_false_iff_ne.mpr c8
      have c8b1 : (((rd_T62 l0 x9_1).f2) != a2) = true := bne_iff_ne.mpr c8
      by_cases c29 : ((rd_T62 l0 x9_1).f0) = a2
      ·
       rw [if_pos c29] at H
       have c29b0 : (((rd_T62 l0 x9_1).f0) == a2) = true := beq_iff_eq.mpr c29
       have c29b1 : (((rd_T62 l0 x9_1).f0) != a2) = false := bne_eq_false_iff_eq.mpr c29
       clear c29
       by_cases c30 : ((rd_T62 l0 x9_1).f2) = a1
       ·
        rw [if_pos c30] at H
        have c30b0 : (((rd_T62 l0 x9_1).f2) == a1) = true := beq_iff_eq.mpr c30
        have c30b1 : (((rd_T62 l0 x9_1).f2) != a1) = false := bne_eq_false_iff_eq.mpr c30
        clear c30
        by_cases c31 : ((rd_T62 l0 x9_1).f4.f0) ≤ a3
        ·
         rw [if_pos c31] at H
         have c31b0 := decide_eq_true c31
         clear c31
         by_cases c32 : a3 < ((rd_T62 l0 x9_1).f4.f1)
         ·
          rw [if_pos c32] at H
          have c32b0 := decide_eq_true c32
          clear c32
          obtain rfl := Option.some.inj H
          have p615 : 0 ≤ (x9_1 : Int) := az
          have q615 : x9_1 < (l0.length : Int) := az
          obtain ⟨ad615, e615, hx615_0, hx615_1, hx615_2, hx615_3, hx615_4, hx615_5⟩ := at_T62 HR0.out x9_1 p615 q615
          cases e615
          replace hx615_0 := cb HB.out hx615_0
          replace hx615_1 := cb HB.out hx615_1
          replace hx615_2 := cb HB.out hx615_2
          replace hx615_3 := cb HB.out hx615_3
          replace hx615_4 := cb HB.out hx615_4
          replace hx615_5 := cb HB.out hx615_5
          replace p615 := eq_true p615
          replace q615 := eq_true q615
          go_wp2_with (first | ((with_reducible refine gate_dst (N := 10) rfl ?_); refine box_event yz (N := 10) yz (cs := #[.int .i64 0, .int .i64 0, .int .i64 0, .int .i64 0, .int .i64 0, .int .i64 0]) (t := 62) gz ?_; intro gb616 hg w33 hbox hb; have BK616 := am (hbox); have GW616 := gwz (g := gb616) HB hg; have GE616 := GW616; replace HB := am (below_step bz hb); clear hb hbox hg; obtain ⟨hcz34_0, hcz34_1, hcz34_2, hcz34_3, hcz34_4, hcz34_5, hfz34_0, hfz34_1, hfz34_2, hfz34_3, hfz34_4, hfz34_5⟩ := kc6 BK616.out))
          go_ret
          exact ⟨ez, bz⟩
         ·
          rw [if_neg c32] at H
          have c32b0 := decide_eq_false c32
          clear c32
          by_cases c35 : ((rd_T62 l0 x9_1).f4.f0) ≤ (wrap64 (a3 + 1))
          ·
           rw [if_pos c35] at H
           have c35b0 := decide_eq_true c35
           clear c35
           by_cases c36 : (wrap64 (a3 + 1)) < ((rd_T62 l0 x9_1).f4.f1)
           ·
            rw [if_pos c36] at H
            have c36b0 := decide_eq_true c36
            clear c36
            obtain rfl := Option.some.inj H
            have p615 : 0 ≤ (x9_1 : Int) := az
            have q615 : x9_1 < (l0.length : Int) := az
            obtain ⟨ad615, e615, hx615_0, hx615_1, hx615_2, hx615_3, hx615_4, hx615_5⟩ := at_T62 HR0.out x9_1 p615 q615
            cases e615
            replace hx615_0 := cb HB.out hx615_0
            replace hx615_1 := cb HB.out hx615_1
            replace hx615_2 := cb HB.out hx615_2
            replace hx615_3 := cb HB.out hx615_3
            replace hx615_4 := cb HB.out hx615_4
            replace hx615_5 := cb HB.out hx615_5
            replace p615 := eq_true p615
            replace q615 := eq_true q615
            go_wp2_with (first | ((with_reducible refine gate_dst (N := 10) rfl ?_); refine box_event yz (N := 10) yz (cs := #[.int .i64 0, .int .i64 0, .int .i64 0, .int .i64 0, .int .i64 0, .int .i64 0]) (t := 62) gz ?_; intro gb616 hg w37 hbox hb; have BK616 := am (hbox); have GW616 := gwz (g := gb616) HB hg; have GE616 := GW616; replace HB := am (below_step bz hb); clear hb hbox hg; obtain ⟨hcz38_0, hcz38_1, hcz38_2, hcz38_3, hcz38_4, hcz38_5, hfz38_0, hfz38_1, hfz38_2, hfz38_3, hfz38_4, hfz38_5⟩ := kc6 BK616.out))
            go_ret
            exact ⟨ez, bz⟩
           ·
            rw [if_neg c36] at H
            have c36b0 := decide_eq_false c36
            clear c36
            have H' := am H
            clear H
            have p615 : 0 ≤ (x9_1 : Int) := az
            have q615 : x9_1 < (l0.length : Int) := az
            obtain ⟨ad615, e615, hx615_0, hx615_1, hx615_2, hx615_3, hx615_4, hx615_5⟩ := at_T62 HR0.out x9_1 p615 q615
            cases e615
            replace hx615_0 := cb HB.out hx615_0
            replace hx615_1 := cb HB.out hx615_1
            replace hx615_2 := cb HB.out hx615_2
            replace hx615_3 := cb HB.out hx615_3
            replace hx615_4 := cb HB.out hx615_4
            replace hx615_5 := cb HB.out hx615_5
            replace p615 := eq_true p615
            replace q615 := eq_true q615
            go_wp2_with (first | ((with_reducible refine gate_dst (N := 10) rfl ?_); refine box_event yz (N := 10) yz (cs := #[.int .i64 0, .int .i64 0, .int .i64 0, .int .i64 0, .int .i64 0, .int .i64 0]) (t := 62) gz ?_; intro gb616 hg w39 hbox hb; have BK616 := am (hbox); have GW616 := gwz (g := gb616) HB hg; have GE616 := GW616; replace HB := am (below_step bz hb); clear hb hbox hg; obtain ⟨hcz40_0, hcz40_1, hcz40_2, hcz40_3, hcz40_4, hcz40_5, hfz40_0, hfz40_1, hfz40_2, hfz40_3, hfz40_4, hfz40_5⟩ := kc6 BK616.out))
            go_roundg k1
            case measure => have := HK1.out; omega
            case rel => exact ⟨(wrap64 (x9_1 + 1)), sz, H', ⟨by have := HK1.out; omega⟩, ⟨bz⟩⟩
          ·
           rw [if_neg c35] at H
           have c35b0 := decide_eq_false c35
           clear c35
           have H' := am H
           clear H
           have p615 : 0 ≤ (x9_1 : Int) := az
           have q615 : x9_1 < (l0.length : Int) := az
           obtain ⟨ad615, e615, hx615_0, hx615_1, hx615_2, hx615_3, hx615_4, hx615_5⟩ := at_T62 HR0.out x9_1 p615 q615
           cases e615
           replace hx615_0 := cb HB.out hx615_0
           replace hx615_1 := cb HB.out hx615_1
           replace hx615_2 := cb HB.out hx615_2
           replace hx615_3 := cb HB.out hx615_3
           replace hx615_4 := cb HB.out hx615_4
           replace hx615_5 := cb HB.out hx615_5
           replace p615 := eq_true p615
           replace q615 := eq_true q615
           go_wp2_with (first | ((with_reducible refine gate_dst (N := 10) rfl ?_); refine box_event yz (N := 10) yz (cs := #[.int .i64 0, .int .i64 0, .int .i64 0, .int .i64 0, .int .i64 0, .int .i64 0]) (t := 62) gz ?_; intro gb616 hg w41 hbox hb; have BK616 := am (hbox); have GW616 := gwz (g := gb616) HB hg; have GE616 := GW616; replace HB := am (below_step bz hb); clear hb hbox hg; obtain ⟨hcz42_0, hcz42_1, hcz42_2, hcz42_3, hcz42_4, hcz42_5, hfz42_0, hfz42_1, hfz42_2, hfz42_3, hfz42_4, hfz42_5⟩ := kc6 BK616.out))
           go_roundg k1
           case measure => have := HK1.out; omega
           case rel => exact ⟨(wrap64 (x9_1 + 1)), sz, H', ⟨by have := HK1.out; omega⟩, ⟨bz⟩⟩
        ·
         rw [if_neg c31] at H
         have c31b0 := decide_eq_false c31
         clear c31
         by_cases c43 : ((rd_T62 l0 x9_1).f4.f0) ≤ (wrap64 (a3 + 1))
         ·
          rw [if_pos c43] at H
          have c43b0 := decide_eq_true c43
          clear c43
          by_cases c44 : (wrap64 (a3 + 1)) < ((rd_T62 l0 x9_1).f4.f1)
          ·
           rw [if_pos c44] at H
           have c44b0 := decide_eq_true c44
           clear c44
           obtain rfl := Option.some.inj H
           have p615 : 0 ≤ (x9_1 : Int) := az
           have q615 : x9_1 < (l0.length : Int) := az
           obtain ⟨ad615, e615, hx615_0, hx615_1, hx615_2, hx615_3, hx615_4, hx615_5⟩ := at_T62 HR0.out x9_1 p615 q615
           cases e615
           replace hx615_0 := cb HB.out hx615_0
           replace hx615_1 := cb HB.out hx615_1
           replace hx615_2 := cb HB.out hx615_2
           replace hx615_3 := cb HB.out hx615_3
           replace hx615_4 := cb HB.out hx615_4
           replace hx615_5 := cb HB.out hx615_5
           replace p615 := eq_true p615
           replace q615 := eq_true q615
           go_wp2_with (first | ((with_reducible refine gate_dst (N := 10) rfl ?_); refine box_event yz (N := 10) yz (cs := #[.int .i64 0, .int .i64 0, .int .i64 0, .int .i64 0, .int .i64 0, .int .i64 0]) (t := 62) gz ?_; intro gb616 hg w45 hbox hb; have BK616 := am (hbox); have GW616 := gwz (g := gb616) HB hg; have GE616 := GW616; replace HB := am (below_step bz hb); clear hb hbox hg; obtain ⟨hcz46_0, hcz46_1, hcz46_2, hcz46_3, hcz46_4, hcz46_5, hfz46_0, hfz46_1, hfz46_2, hfz46_3, hfz46_4, hfz46_5⟩ := kc6 BK616.out))
           go_ret
           exact ⟨ez, bz⟩
          ·
           rw [if_neg c44] at H
           have c44b0 := decide_eq_false c44
           clear c44
           have H' := am H
           clear H
           have p615 : 0 ≤ (x9_1 : Int) := az
           have q615 : x9_1 < (l0.length : Int) := az
           obtain ⟨ad615, e615, hx615_0, hx615_1, hx615_2, hx615_3, hx615_4, hx615_5⟩ := at_T62 HR0.out x9_1 p615 q615
           cases e615
           replace hx615_0 := cb HB.out hx615_0
           replace hx615_1 := cb HB.out hx615_1
           replace hx615_2 := cb HB.out hx615_2
           replace hx615_3 := cb HB.out hx615_3
           replace hx615_4 := cb HB.out hx615_4
           replace hx615_5 := cb HB.out hx615_5
           replace p615 := eq_true p615
           replace q615 := eq_true q615
           go_wp2_with (first | ((with_reducible refine gate_dst (N := 10) rfl ?_); refine box_event yz (N := 10) yz (cs := #[.int .i64 0, .int .i64 0, .int .i64 0, .int .i64 0, .int .i64 0, .int .i64 0]) (t := 62) gz ?_; intro gb616 hg w47 hbox hb; have BK616 := am (hbox); have GW616 := gwz (g := gb616) HB hg; have GE616 := GW616; replace HB := am (below_step bz hb); clear hb hbox hg; obtain ⟨hcz48_0, hcz48_1, hcz48_2, hcz48_3, hcz48_4, hcz48_5, hfz48_0, hfz48_1, hfz48_2, hfz48_3, hfz48_4, hfz48_5⟩ := kc6 BK616.out))
           go_roundg k1
           case measure => have := HK1.out; omega
           case rel => exact ⟨(wrap64 (x9_1 + 1)), sz, H', ⟨by have := HK1.out; omega⟩, ⟨bz⟩⟩
         ·
          rw [if_neg c43] at H
          have c43b0 := decide_eq_false c43
          clear c43
          have H' := am H
          clear H
          have p615 : 0 ≤ (x9_1 : Int) := az
          have q615 : x9_1 < (l0.length : Int) := az
          obtain ⟨ad615, e615, hx615_0, hx615_1, hx615_2, hx615_3, hx615_4, hx615_5⟩ := at_T62 HR0.out x9_1 p615 q615
          cases e615
          replace hx615_0 := cb HB.out hx615_0
          replace hx615_1 := cb HB.out hx615_1
          replace hx615_2 := cb HB.out hx615_2
          replace hx615_3 := cb HB.out hx615_3
          replace hx615_4 := cb HB.out hx615_4
          replace hx615_5 := cb HB.out hx615_5
          replace p615 := eq_true p615
          replace q615 := eq_true q615
          go_wp2_with (first | ((with_reducible refine gate_dst (N := 10) rfl ?_); refine box_event yz (N := 10) yz (cs := #[.int .i64 0, .int .i64 0, .int .i64 0, .int .i64 0, .int .i64 0, .int .i64 0]) (t := 62) gz ?_; intro gb616 hg w49 hbox hb; have BK616 := am (hbox); have GW616 := gwz (g := gb616) HB hg; have GE616 := GW616; replace HB := am (below_step bz hb); clear hb hbox hg; obtain ⟨hcz50_0, hcz50_1, hcz50_2, hcz50_3, hcz50_4, hcz50_5, hfz50_0, hfz50_1, hfz50_2, hfz50_3, hfz50_4, hfz50_5⟩ := kc6 BK616.out))
          go_roundg k1
          case measure => have := HK1.out; omega
          case rel => exact ⟨(wrap64 (x9_1 + 1)), sz, H', ⟨by have := HK1.out; omega⟩, ⟨bz⟩⟩
       ·
        rw [if_neg c30] at H
        have c30b0 : (((rd_T62 l0 x9_1).f2) == a1) = false := beq_eq_false_iff_ne.mpr c30
        have c30b1 : (((rd_T62 l0 x9_1).f2) != a1) = true := bne_iff_ne.mpr c30
        have H' := am H
        clear H
        have p615 : 0 ≤ (x9_1 : Int) := az
        have q615 : x9_1 < (l0.length : Int) := az
        obtain ⟨ad615, e615, hx615_0, hx615_1, hx615_2, hx615_3, hx615_4, hx615_5⟩ := at_T62 HR0.out x9_1 p615 q615
        cases e615
        replace hx615_0 := cb HB.out hx615_0
        replace hx615_1 := cb HB.out hx615_1
        replace hx615_2 := cb HB.out hx615_2
        replace hx615_3 := cb HB.out hx615_3
        replace hx615_4 := cb HB.out hx615_4
        replace hx615_5 := cb HB.out hx615_5
        replace p615 := eq_true p615
        replace q615 := eq_true q615
        go_wp2_with (first | ((with_reducible refine gate_dst (N := 10) rfl ?_); refine box_event yz (N := 10) yz (cs := #[.int .i64 0, .int .i64 0, .int .i64 0, .int .i64 0, .int .i64 0, .int .i64 0]) (t := 62) gz ?_; intro gb616 hg w51 hbox hb; have BK616 := am (hbox); have GW616 := gwz (g := gb616) HB hg; have GE616 := GW616; replace HB := am (below_step bz hb); clear hb hbox hg; obtain ⟨hcz52_0, hcz52_1, hcz52_2, hcz52_3, hcz52_4, hcz52_5, hfz52_0, hfz52_1, hfz52_2, hfz52_3, hfz52_4, hfz52_5⟩ := kc6 BK616.out))
        go_roundg k1
        case measure => have := HK1.out; omega
        case rel => exact ⟨(wrap64 (x9_1 + 1)), sz, H', ⟨by have := HK1.out; omega⟩, ⟨bz⟩⟩
      ·
       rw [if_neg c29] at H
       have c29b0 : (((rd_T62 l0 x9_1).f0) == a2) = false := beq_eq_false_iff_ne.mpr c29
       have c29b1 : (((rd_T62 l0 x9_1).f0) != a2) = true := bne_iff_ne.mpr c29
       have H' := am H
       clear H
       have p615 : 0 ≤ (x9_1 : Int) := az
       have q615 : x9_1 < (l0.length : Int) := az
       obtain ⟨ad615, e615, hx615_0, hx615_1, hx615_2, hx615_3, hx615_4, hx615_5⟩ := at_T62 HR0.out x9_1 p615 q615
       cases e615
       replace hx615_0 := cb HB.out hx615_0
       replace hx615_1 := cb HB.out hx615_1
       replace hx615_2 := cb HB.out hx615_2
       replace hx615_3 := cb HB.out hx615_3
       replace hx615_4 := cb HB.out hx615_4
       replace hx615_5 := cb HB.out hx615_5
       replace p615 := eq_true p615
       replace q615 := eq_true q615
       go_wp2_with (first | ((with_reducible refine gate_dst (N := 10) rfl ?_); refine box_event yz (N := 10) yz (cs := #[.int .i64 0, .int .i64 0, .int .i64 0, .int .i64 0, .int .i64 0, .int .i64 0]) (t := 62) gz ?_; intro gb616 hg w53 hbox hb; have BK616 := am (hbox); have GW616 := gwz (g := gb616) HB hg; have GE616 := GW616; replace HB := am (below_step bz hb); clear hb hbox hg; obtain ⟨hcz54_0, hcz54_1, hcz54_2, hcz54_3, hcz54_4, hcz54_5, hfz54_0, hfz54_1, hfz54_2, hfz54_3, hfz54_4, hfz54_5⟩ := kc6 BK616.out))
       go_roundg k1
       case measure => have := HK1.out; omega
       case rel => exact ⟨(wrap64 (x9_1 + 1)), sz, H', ⟨by have := HK1.out; omega⟩, ⟨bz⟩⟩
    ·
     rw [if_neg c7] at H
     have c7b0 : (((rd_T62 l0 x9_1).f0) == a1) = false := beq_eq_false_iff_ne.mpr c7
     have c7b1 : (((rd_T62 l0 x9_1).f0) != a1) = true := bne_iff_ne.mpr c7
     by_cases c55 : ((rd_T62 l0 x9_1).f0) = a2
     ·
      rw [if_pos c55] at H
      have c55b0 : (((rd_T62 l0 x9_1).f0) == a2) = true := beq_iff_eq.mpr c55
      have c55b1 : (((rd_T62 l0 x9_1).f0) != a2) = false := bne_eq_false_iff_eq.mpr c55
      clear c55
      by_cases c56 : ((rd_T62 l0 x9_1).f2) = a1
      ·
       rw [if_pos c56] at H
       have c56b0 : (((rd_T62 l0 x9_1).f2) == a1) = true := beq_iff_eq.mpr c56
       have c56b1 : (((rd_T62 l0 x9_1).f2) != a1) = false := bne_eq_false_iff_eq.mpr c56
       clear c56
       by_cases c57 : ((rd_T62 l0 x9_1).f4.f0) ≤ a3
       ·
        rw [if_pos c57] at H
        have c57b0 := decide_eq_true c57
        clear c57
        by_cases c58 : a3 < ((rd_T62 l0 x9_1).f4.f1)
        ·
         rw [if_pos c58] at H
         have c58b0 := decide_eq_true c58
         clear c58
         obtain rfl := Option.some.inj H
         have p615 : 0 ≤ (x9_1 : Int) := az
         have q615 : x9_1 < (l0.length : Int) := az
         obtain ⟨ad615, e615, hx615_0, hx615_1, hx615_2, hx615_3, hx615_4, hx615_5⟩ := at_T62 HR0.out x9_1 p615 q615
         cases e615
         replace hx615_0 := cb HB.out hx615_0
         replace hx615_1 := cb HB.out hx615_1
         replace hx615_2 := cb HB.out hx615_2
         replace hx615_3 := cb HB.out hx615_3
         replace hx615_4 := cb HB.out hx615_4
         replace hx615_5 := cb HB.out hx615_5
         replace p615 := eq_true p615
         replace q615 := eq_true q615
         go_wp2_with (first | ((with_reducible refine gate_dst (N := 10) rfl ?_); refine box_event yz (N := 10) yz (cs := #[.int .i64 0, .int .i64 0, .int .i64 0, .int .i64 0, .int .i64 0, .int .i64 0]) (t := 62) gz ?_; intro gb616 hg w59 hbox hb; have BK616 := am (hbox); have GW616 := gwz (g := gb616) HB hg; have GE616 := GW616; replace HB := am (below_step bz hb); clear hb hbox hg; obtain ⟨hcz60_0, hcz60_1, hcz60_2, hcz60_3, hcz60_4, hcz60_5, hfz60_0, hfz60_1, hfz60_2, hfz60_3, hfz60_4, hfz60_5⟩ := kc6 BK616.out))
         go_ret
         exact ⟨ez, bz⟩
        ·
         rw [if_neg c58] at H
         have c58b0 := decide_eq_false c58
         clear c58
         by_cases c61 : ((rd_T62 l0 x9_1).f4.f0) ≤ (wrap64 (a3 + 1))
         ·
          rw [if_pos c61] at H
          have c61b0 := decide_eq_true c61
          clear c61
          by_cases c62 : (wrap64 (a3 + 1)) < ((rd_T62 l0 x9_1).f4.f1)
          ·
           rw [if_pos c62] at H
           have c62b0 := decide_eq_true c62
           clear c62
           obtain rfl := Option.some.inj H
           have p615 : 0 ≤ (x9_1 : Int) := az
           have q615 : x9_1 < (l0.length : Int) := az
           obtain ⟨ad615, e615, hx615_0, hx615_1, hx615_2, hx615_3, hx615_4, hx615_5⟩ := at_T62 HR0.out x9_1 p615 q615
           cases e615
           replace hx615_0 := cb HB.out hx615_0
           replace hx615_1 := cb HB.out hx615_1
           replace hx615_2 := cb HB.out hx615_2
           replace hx615_3 := cb HB.out hx615_3
           replace hx615_4 := cb HB.out hx615_4
           replace hx615_5 := cb HB.out hx615_5
           replace p615 := eq_true p615
           replace q615 := eq_true q615
           go_wp2_with (first | ((with_reducible refine gate_dst (N := 10) rfl ?_); refine box_event yz (N := 10) yz (cs := #[.int .i64 0, .int .i64 0, .int .i64 0, .int .i64 0, .int .i64 0, .int .i64 0]) (t := 62) gz ?_; intro gb616 hg w63 hbox hb; have BK616 := am (hbox); have GW616 := gwz (g := gb616) HB hg; have GE616 := GW616; replace HB := am (below_step bz hb); clear hb hbox hg; obtain ⟨hcz64_0, hcz64_1, hcz64_2, hcz64_3, hcz64_4, hcz64_5, hfz64_0, hfz64_1, hfz64_2, hfz64_3, hfz64_4, hfz64_5⟩ := kc6 BK616.out))
           go_ret
           exact ⟨ez, bz⟩
          ·
           rw [if_neg c62] at H
           have c62b0 := decide_eq_false c62
           clear c62
           have H' := am H
           clear H
           have p615 : 0 ≤ (x9_1 : Int) := az
           have q615 : x9_1 < (l0.length : Int) := az
           obtain ⟨ad615, e615, hx615_0, hx615_1, hx615_2, hx615_3, hx615_4, hx615_5⟩ := at_T62 HR0.out x9_1 p615 q615
           cases e615
           replace hx615_0 := cb HB.out hx615_0
           replace hx615_1 := cb HB.out hx615_1
           replace hx615_2 := cb HB.out hx615_2
           replace hx615_3 := cb HB.out hx615_3
           replace hx615_4 := cb HB.out hx615_4
           replace hx615_5 := cb HB.out hx615_5
           replace p615 := eq_true p615
           replace q615 := eq_true q615
           go_wp2_with (first | ((with_reducible refine gate_dst (N := 10) rfl ?_); refine box_event yz (N := 10) yz (cs := #[.int .i64 0, .int .i64 0, .int .i64 0, .int .i64 0, .int .i64 0, .int .i64 0]) (t := 62) gz ?_; intro gb616 hg w65 hbox hb; have BK616 := am (hbox); have GW616 := gwz (g := gb616) HB hg; have GE616 := GW616; replace HB := am (below_step bz hb); clear hb hbox hg; obtain ⟨hcz66_0, hcz66_1, hcz66_2, hcz66_3, hcz66_4, hcz66_5, hfz66_0, hfz66_1, hfz66_2, hfz66_3, hfz66_4, hfz66_5⟩ := kc6 BK616.out))
           go_roundg k1
           case measure => have := HK1.out; omega
           case rel => exact ⟨(wrap64 (x9_1 + 1)), sz, H', ⟨by have := HK1.out; omega⟩, ⟨bz⟩⟩
         ·
          rw [if_neg c61] at H
          have c61b0 := decide_eq_false c61
          clear c61
          have H' := am H
          clear H
          have p615 : 0 ≤ (x9_1 : Int) := az
          have q615 : x9_1 < (l0.length : Int) := az
          obtain ⟨ad615, e615, hx615_0, hx615_1, hx615_2, hx615_3, hx615_4, hx615_5⟩ := at_T62 HR0.out x9_1 p615 q615
          cases e615
          replace hx615_0 := cb HB.out hx615_0
          replace hx615_1 := cb HB.out hx615_1
          replace hx615_2 := cb HB.out hx615_2
          replace hx615_3 := cb HB.out hx615_3
          replace hx615_4 := cb HB.out hx615_4
          replace hx615_5 := cb HB.out hx615_5
          replace p615 := eq_true p615
          replace q615 := eq_true q615
          go_wp2_with (first | ((with_reducible refine gate_dst (N := 10) rfl ?_); refine box_event yz (N := 10) yz (cs := #[.int .i64 0, .int .i64 0, .int .i64 0, .int .i64 0, .int .i64 0, .int .i64 0]) (t := 62) gz ?_; intro gb616 hg w67 hbox hb; have BK616 := am (hbox); have GW616 := gwz (g := gb616) HB hg; have GE616 := GW616; replace HB := am (below_step bz hb); clear hb hbox hg; obtain ⟨hcz68_0, hcz68_1, hcz68_2, hcz68_3, hcz68_4, hcz68_5, hfz68_0, hfz68_1, hfz68_2, hfz68_3, hfz68_4, hfz68_5⟩ := kc6 BK616.out))
          go_roundg k1
          case measure => have := HK1.out; omega
          case rel => exact ⟨(wrap64 (x9_1 + 1)), sz, H', ⟨by have := HK1.out; omega⟩, ⟨bz⟩⟩
       ·
        rw [if_neg c57] at H
        have c57b0 := decide_eq_false c57
        clear c57
        by_cases c69 : ((rd_T62 l0 x9_1).f4.f0) ≤ (wrap64 (a3 + 1))
        ·
         rw [if_pos c69] at H
         have c69b0 := decide_eq_true c69
         clear c69
         by_cases c70 : (wrap64 (a3 + 1)) < ((rd_T62 l0 x9_1).f4.f1)
         ·
          rw [if_pos c70] at H
          have c70b0 := decide_eq_true c70
          clear c70
          obtain rfl := Option.some.inj H
          have p615 : 0 ≤ (x9_1 : Int) := az
          have q615 : x9_1 < (l0.length : Int) := az
          obtain ⟨ad615, e615, hx615_0, hx615_1, hx615_2, hx615_3, hx615_4, hx615_5⟩ := at_T62 HR0.out x9_1 p615 q615
          cases e615
          replace hx615_0 := cb HB.out hx615_0
          replace hx615_1 := cb HB.out hx615_1
          replace hx615_2 := cb HB.out hx615_2
          replace hx615_3 := cb HB.out hx615_3
          replace hx615_4 := cb HB.out hx615_4
          replace hx615_5 := cb HB.out hx615_5
          replace p615 := eq_true p615
          replace q615 := eq_true q615
          go_wp2_with (first | ((with_reducible refine gate_dst (N := 10) rfl ?_); refine box_event yz (N := 10) yz (cs := #[.int .i64 0, .int .i64 0, .int .i64 0, .int .i64 0, .int .i64 0, .int .i64 0]) (t := 62) gz ?_; intro gb616 hg w71 hbox hb; have BK616 := am (hbox); have GW616 := gwz (g := gb616) HB hg; have GE616 := GW616; replace HB := am (below_step bz hb); clear hb hbox hg; obtain ⟨hcz72_0, hcz72_1, hcz72_2, hcz72_3, hcz72_4, hcz72_5, hfz72_0, hfz72_1, hfz72_2, hfz72_3, hfz72_4, hfz72_5⟩ := kc6 BK616.out))
          go_ret
          exact ⟨ez, bz⟩
         ·
          rw [if_neg c70] at H
          have c70b0 := decide_eq_false c70
          clear c70
          have H' := am H
          clear H
          have p615 : 0 ≤ (x9_1 : Int) := az
          have q615 : x9_1 < (l0.length : Int) := az
          obtain ⟨ad615, e615, hx615_0, hx615_1, hx615_2, hx615_3, hx615_4, hx615_5⟩ := at_T62 HR0.out x9_1 p615 q615
          cases e615
          replace hx615_0 := cb HB.out hx615_0
          replace hx615_1 := cb HB.out hx615_1
          replace hx615_2 := cb HB.out hx615_2
          replace hx615_3 := cb HB.out hx615_3
          replace hx615_4 := cb HB.out hx615_4
          replace hx615_5 := cb HB.out hx615_5
          replace p615 := eq_true p615
          replace q615 := eq_true q615
          go_wp2_with (first | ((with_reducible refine gate_dst (N := 10) rfl ?_); refine box_event yz (N := 10) yz (cs := #[.int .i64 0, .int .i64 0, .int .i64 0, .int .i64 0, .int .i64 0, .int .i64 0]) (t := 62) gz ?_; intro gb616 hg w73 hbox hb; have BK616 := am (hbox); have GW616 := gwz (g := gb616) HB hg; have GE616 := GW616; replace HB := am (below_step bz hb); clear hb hbox hg; obtain ⟨hcz74_0, hcz74_1, hcz74_2, hcz74_3, hcz74_4, hcz74_5, hfz74_0, hfz74_1, hfz74_2, hfz74_3, hfz74_4, hfz74_5⟩ := kc6 BK616.out))
          go_roundg k1
          case measure => have := HK1.out; omega
          case rel => exact ⟨(wrap64 (x9_1 + 1)), sz, H', ⟨by have := HK1.out; omega⟩, ⟨bz⟩⟩
        ·
         rw [if_neg c69] at H
         have c69b0 := decide_eq_false c69
         clear c69
         have H' := am H
         clear H
         have p615 : 0 ≤ (x9_1 : Int) := az
         have q615 : x9_1 < (l0.length : Int) := az
         obtain ⟨ad615, e615, hx615_0, hx615_1, hx615_2, hx615_3, hx615_4, hx615_5⟩ := at_T62 HR0.out x9_1 p615 q615
         cases e615
         replace hx615_0 := cb HB.out hx615_0
         replace hx615_1 := cb HB.out hx615_1
         replace hx615_2 := cb HB.out hx615_2
         replace hx615_3 := cb HB.out hx615_3
         replace hx615_4 := cb HB.out hx615_4
         replace hx615_5 := cb HB.out hx615_5
         replace p615 := eq_true p615
         replace q615 := eq_true q615
         go_wp2_with (first | ((with_reducible refine gate_dst (N := 10) rfl ?_); refine box_event yz (N := 10) yz (cs := #[.int .i64 0, .int .i64 0, .int .i64 0, .int .i64 0, .int .i64 0, .int .i64 0]) (t := 62) gz ?_; intro gb616 hg w75 hbox hb; have BK616 := am (hbox); have GW616 := gwz (g := gb616) HB hg; have GE616 := GW616; replace HB := am (below_step bz hb); clear hb hbox hg; obtain ⟨hcz76_0, hcz76_1, hcz76_2, hcz76_3, hcz76_4, hcz76_5, hfz76_0, hfz76_1, hfz76_2, hfz76_3, hfz76_4, hfz76_5⟩ := kc6 BK616.out))
         go_roundg k1
         case measure => have := HK1.out; omega
         case rel => exact ⟨(wrap64 (x9_1 + 1)), sz, H', ⟨by have := HK1.out; omega⟩, ⟨bz⟩⟩
      ·
       rw [if_neg c56] at H
       have c56b0 : (((rd_T62 l0 x9_1).f2) == a1) = false := beq_eq_false_iff_ne.mpr c56
       have c56b1 : (((rd_T62 l0 x9_1).f2) != a1) = true := bne_iff_ne.mpr c56
       have H' := am H
       clear H
       have p615 : 0 ≤ (x9_1 : Int) := az
       have q615 : x9_1 < (l0.length : Int) := az
       obtain ⟨ad615, e615, hx615_0, hx615_1, hx615_2, hx615_3, hx615_4, hx615_5⟩ := at_T62 HR0.out x9_1 p615 q615
       cases e615
       replace hx615_0 := cb HB.out hx615_0
       replace hx615_1 := cb HB.out hx615_1
       replace hx615_2 := cb HB.out hx615_2
       replace hx615_3 := cb HB.out hx615_3
       replace hx615_4 := cb HB.out hx615_4
       replace hx615_5 := cb HB.out hx615_5
       replace p615 := eq_true p615
       replace q615 := eq_true q615
       go_wp2_with (first | ((with_reducible refine gate_dst (N := 10) rfl ?_); refine box_event yz (N := 10) yz (cs := #[.int .i64 0, .int .i64 0, .int .i64 0, .int .i64 0, .int .i64 0, .int .i64 0]) (t := 62) gz ?_; intro gb616 hg w77 hbox hb; have BK616 := am (hbox); have GW616 := gwz (g := gb616) HB hg; have GE616 := GW616; replace HB := am (below_step bz hb); clear hb hbox hg; obtain ⟨hcz78_0, hcz78_1, hcz78_2, hcz78_3, hcz78_4, hcz78_5, hfz78_0, hfz78_1, hfz78_2, hfz78_3, hfz78_4, hfz78_5⟩ := kc6 BK616.out))
       go_roundg k1
       case measure => have := HK1.out; omega
       case rel => exact ⟨(wrap64 (x9_1 + 1)), sz, H', ⟨by have := HK1.out; omega⟩, ⟨bz⟩⟩
     ·
      rw [if_neg c55] at H
      have c55b0 : (((rd_T62 l0 x9_1).f0) == a2) = false := beq_eq_false_iff_ne.mpr c55
      have c55b1 : (((rd_T62 l0 x9_1).f0) != a2) = true := bne_iff_ne.mpr c55
      have H' := am H
      clear H
      have p615 : 0 ≤ (x9_1 : Int) := az
      have q615 : x9_1 < (l0.length : Int) := az
      obtain ⟨ad615, e615, hx615_0, hx615_1, hx615_2, hx615_3, hx615_4, hx615_5⟩ := at_T62 HR0.out x9_1 p615 q615
      cases e615
      replace hx615_0 := cb HB.out hx615_0
      replace hx615_1 := cb HB.out hx615_1
      replace hx615_2 := cb HB.out hx615_2
      replace hx615_3 := cb HB.out hx615_3
      replace hx615_4 := cb HB.out hx615_4
      replace hx615_5 := cb HB.out hx615_5
      replace p615 := eq_true p615
      replace q615 := eq_true q615
      go_wp2_with (first | ((with_reducible refine gate_dst (N := 10) rfl ?_); refine box_event yz (N := 10) yz (cs := #[.int .i64 0, .int .i64 0, .int .i64 0, .int .i64 0, .int .i64 0, .int .i64 0]) (t := 62) gz ?_; intro gb616 hg w79 hbox hb; have BK616 := am (hbox); have GW616 := gwz (g := gb616) HB hg; have GE616 := GW616; replace HB := am (below_step bz hb); clear hb hbox hg; obtain ⟨hcz80_0, hcz80_1, hcz80_2, hcz80_3, hcz80_4, hcz80_5, hfz80_0, hfz80_1, hfz80_2, hfz80_3, hfz80_4, hfz80_5⟩ := kc6 BK616.out))
      go_roundg k1
      case measure => have := HK1.out; omega
      case rel => exact ⟨(wrap64 (x9_1 + 1)), sz, H', ⟨by have := HK1.out; omega⟩, ⟨bz⟩⟩
   ·
    rw [if_neg c5] at H
    have c5b0 := decide_eq_false c5
    clear c5
    obtain rfl := Option.some.inj H
    go_wp2
    go_ret
    exact ⟨ez, bz⟩

end Go.Proofs.Yteflngoiebgdaaa.X
