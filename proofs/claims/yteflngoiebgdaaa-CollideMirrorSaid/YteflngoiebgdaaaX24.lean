import Derived.Test.YteflngoiebgdaaaX0
import Derived.Test.YteflngoiebgdaaaX23
namespace Go.Proofs.Yteflngoiebgdaaa.X
open Go.RowKit YteflngoiebgdaaaW.PrintWords YteflngoiebgdaaaW.PrintLast YteflngoiebgdaaaW.PrintMore
attribute [local go_sem] max2_int min2_int max_two min_two max_three min_three max_four min_four
set_option linter.unusedVariables false
set_option linter.unusedSimpArgs false

/-! ### collide_contact: function 51 -/
def collide_contact.l0 : Nat → Int → Int → Int → List (S62) → Int → Int → Option (Bool)
 | 0, _, _, _, _, _, _ => none
 | k + 1, x1, x2, x3, x11, x12, x13 => if x13 < x12 then (if 0 ≤ x13 then (if x13 < (x11.length : Int) then (if ((rd_T62 x11 x13).f0) = x1 then (if ((rd_T62 x11 x13).f2) = x2 then ((collide_has.f ((rd_T62 x11 x13).f4.f0) ((rd_T62 x11 x13).f4.f1) x3).bind fun t188 => (if t188 = true then (some true) else ((collide_has.f ((rd_T62 x11 x13).f4.f0) ((rd_T62 x11 x13).f4.f1) (wrap64 (x3 + 1))).bind fun t189 => (if t189 = true then (some true) else (collide_contact.l0 k x1 x2 x3 x11 x12 (wrap64 (x13 + 1))))))) else (if ((rd_T62 x11 x13).f0) = x2 then (if ((rd_T62 x11 x13).f2) = x1 then ((collide_has.f ((rd_T62 x11 x13).f4.f0) ((rd_T62 x11 x13).f4.f1) x3).bind fun t190 => (if t190 = true then (some true) else ((collide_has.f ((rd_T62 x11 x13).f4.f0) ((rd_T62 x11 x13).f4.f1) (wrap64 (x3 + 1))).bind fun t191 => (if t191 = true then (some true) else (collide_contact.l0 k x1 x2 x3 x11 x12 (wrap64 (x13 + 1))))))) else (collide_contact.l0 k x1 x2 x3 x11 x12 (wrap64 (x13 + 1)))) else (collide_contact.l0 k x1 x2 x3 x11 x12 (wrap64 (x13 + 1))))) else (if ((rd_T62 x11 x13).f0) = x2 then (if ((rd_T62 x11 x13).f2) = x1 then ((collide_has.f ((rd_T62 x11 x13).f4.f0) ((rd_T62 x11 x13).f4.f1) x3).bind fun t192 => (if t192 = true then (some true) else ((collide_has.f ((rd_T62 x11 x13).f4.f0) ((rd_T62 x11 x13).f4.f1) (wrap64 (x3 + 1))).bind fun t193 => (if t193 = true then (some true) else (collide_contact.l0 k x1 x2 x3 x11 x12 (wrap64 (x13 + 1))))))) else (collide_contact.l0 k x1 x2 x3 x11 x12 (wrap64 (x13 + 1)))) else (collide_contact.l0 k x1 x2 x3 x11 x12 (wrap64 (x13 + 1))))) else (none)) else (none)) else (some false)
def collide_contact.f (k : Nat) (l0 : List (S62)) (a1 a2 a3 : Int) : Option (Bool) := collide_contact.l0 k a1 a2 a3 l0 (l0.length : Int) 0
theorem collide_contact.mono_l : ∀ k, (∀ y0 y1 y2 y3 y4 y5, LeO (collide_contact.l0 k y0 y1 y2 y3 y4 y5) (collide_contact.l0 (k + 1) y0 y1 y2 y3 y4 y5))
 | 0 => fun _ _ _ _ _ _ r h => by simp [collide_contact.l0] at h
 | k + 1 => by
  have ih0 := collide_contact.mono_l k
  ·
   intro y0 y1 y2 y3 y4 y5
   unfold collide_contact.l0
   repeat' first
   | (with_reducible exact ih0 _ _ _ _ _ _)
   | (with_reducible exact LeO.refl _)
   | (with_reducible exact LeO.none _)
   | (with_reducible refine LeO.ite ?_ ?_)
   | (with_reducible refine LeO.bind ?_ (fun _ => ?_))
   | exact ih0 _ _ _ _ _ _
   | exact LeO.none _
   | refine LeO.ite ?_ ?_
   | refine LeO.bind ?_ (fun _ => ?_)
theorem collide_contact.mono : ∀ a0 a1 a2 a3 k, LeO (collide_contact.f k a0 a1 a2 a3) (collide_contact.f (k + 1) a0 a1 a2 a3) := by
 intro a0 a1 a2 a3 k
 have ih0 := collide_contact.mono_l k
 unfold collide_contact.f
 repeat' first
   | (with_reducible exact ih0 _ _ _ _ _ _)
   | (with_reducible exact LeO.refl _)
   | (with_reducible exact LeO.none _)
   | (with_reducible refine LeO.ite ?_ ?_)
   | (with_reducible refine LeO.bind ?_ (fun _ => ?_))
   | exact ih0 _ _ _ _ _ _
   | exact LeO.none _
   | refine LeO.ite ?_ ?_
   | refine LeO.bind ?_ (fun _ => ?_)
set_option maxHeartbeats 8000000 in
set_option maxRecDepth 100000 in
theorem collide_contact.calls (k : Nat) (A0 : Option Addr) (c0 : Nat) (l0 : List (S62)) (a1 a2 a3 : Int) (r : Bool) (w : World) (hr0 : Kd.C k62 w A0 l0.length l0) (hc0 : l0.length ≤ c0) (h : collide_contact.f k l0 a1 a2 a3 = some r) :
  Calls Try.prog 51 #[.slice A0 l0.length c0, .int .i64 a1, .int .i64 a2, .int .i64 a3] w fun e w' => e = .returned (.bool r) ∧ Below w.heap.size w w' := by
 have hu62 := Try.underlying62
 have hu60 := Try.underlying60
 have HR0 := am hr0
 have HC0 := am hc0
 clear hr0 hc0
 have HB := am (Below.refl w.heap.size w)
 have H : (collide_contact.l0 k a1 a2 a3 l0 (l0.length : Int) 0) = some r := h
 clear h
 have H' := am H
 clear H
 go_enter Try.func51, Try.ntmps51
 go_wp2
 go_loopg [13] k (fun kq v13 w' => ∃ (x13_1 : Int), v13 = .int .i64 x13_1 ∧ Aside0 (collide_contact.l0 kq a1 a2 a3 l0 (l0.length : Int) x13_1 = some r) ∧ Aside0 (kq ≤ k) ∧ Aside0 (Below w.heap.size w w'))
 case atStart => exact ⟨(0), sz, H', ⟨Nat.le_refl _⟩, ⟨bz⟩⟩
 case round =>
  clear H'
  try clear p2
  obtain ⟨x13_1, rfl, HA, HK1, HB⟩ := hrel
  cases gk with
  | zero => exact absurd HA.out (by simp [collide_contact.l0])
  | succ k1 =>
   have H := HA.out
   clear HA
   simp only [collide_contact.l0] at H
   by_cases c5 : x13_1 < (l0.length : Int)
   ·
    rw [if_pos c5] at H
    have c5b0 := decide_eq_true c5
    clear c5
    by_cases c6 : 0 ≤ x13_1; rotate_left
    · rw [if_neg c6] at H; exact absurd H (by simp)
    rw [if_pos c6] at H
    have c6b0 := decide_eq_true c6
    clear c6
    by_cases c7 : x13_1 < (l0.length : Int); rotate_left
    · rw [if_neg c7] at H; exact absurd H (by simp)
    rw [if_pos c7] at H
    have c7b0 := decide_eq_true c7
    clear c7
    by_cases c8 : ((rd_T62 l0 x13_1).f0) = a1
    ·
     rw [if_pos c8] at H
     have c8b0 : (((rd_T62 l0 x13_1).f0) == a1) = true := beq_iff_eq.mpr c8
     have c8b1 : (((rd_T62 l0 x13_1).f0) != a1) = false := bne_eq_false_iff_eq.mpr c8
     clear c8
     by_cases c9 : ((rd_T62 l0 x13_1).f2) = a2
     ·
      rw [if_pos c9] at H
      have c9b0 : (((rd_T62 l0 x13_1).f2) == a2) = true := beq_iff_eq.mpr c9
      have c9b1 : (((rd_T62 l0 x13_1).f2) != a2) = false := bne_eq_false_iff_eq.mpr c9
      clear c9
      replace H := Option.bind_eq_some_iff.mp H
      obtain ⟨t188, A100, H⟩ := H
      replace H : (if t188 = true then (some true) else ((collide_has.f ((rd_T62 l0 x13_1).f4.f0) ((rd_T62 l0 x13_1).f4.f1) (wrap64 (a3 + 1))).bind fun t189 => (if t189 = true then (some true) else (collide_contact.l0 k1 a1 a2 a3 l0 (l0.length : Int) (wrap64 (x13_1 + 1)))))) = some r := H
      have A10 := am A100
      clear A100
      by_cases c11 : t188 = true
      ·
       subst c11
       have H1 : (some true) = some r := by rw [if_pos rfl] at H; exact H
       clear H
       have H := H1
       clear H1
       obtain rfl := Option.some.inj H
       have p186 : 0 ≤ (x13_1 : Int) := az
       have q186 : x13_1 < (l0.length : Int) := az
       obtain ⟨ad186, e186, hx186_0, hx186_1, hx186_2, hx186_3, hx186_4, hx186_5⟩ := at_T62 HR0.out x13_1 p186 q186
       cases e186
       replace hx186_0 := cb HB.out hx186_0
       replace hx186_1 := cb HB.out hx186_1
       replace hx186_2 := cb HB.out hx186_2
       replace hx186_3 := cb HB.out hx186_3
       replace hx186_4 := cb HB.out hx186_4
       replace hx186_5 := cb HB.out hx186_5
       replace p186 := eq_true p186
       replace q186 := eq_true q186
       go_wp2_with (first | ((with_reducible refine gate_dst (N := 10) rfl ?_); refine box_event yz (N := 10) yz (cs := #[.int .i64 0, .int .i64 0, .int .i64 0, .int .i64 0, .int .i64 0, .int .i64 0]) (t := 62) gz ?_; intro gb187 hg w12 hbox hb; have BK187 := am (hbox); have GW187 := gwz (g := gb187) HB hg; have GE187 := GW187; replace HB := am (below_step bz hb); clear hb hbox hg; obtain ⟨hcz13_0, hcz13_1, hcz13_2, hcz13_3, hcz13_4, hcz13_5, hfz13_0, hfz13_1, hfz13_2, hfz13_3, hfz13_4, hfz13_5⟩ := kc6 BK187.out) | (go_at_call 68; (with_reducible refine (collide_has.calls ((rd_T62 l0 x13_1).f4.f0) ((rd_T62 l0 x13_1).f4.f1) a3 true _ A10.out).mono ?_); rintro e w14 ⟨rfl, hb⟩; replace BK187 := am (blk_below (o := .cells #[.int .i64 ((rd_T62 l0 x13_1).f0), .int .i64 ((rd_T62 l0 x13_1).f1), .int .i64 ((rd_T62 l0 x13_1).f2), .int .i64 ((rd_T62 l0 x13_1).f3), .int .i64 ((rd_T62 l0 x13_1).f4.f0), .int .i64 ((rd_T62 l0 x13_1).f4.f1)] 62 (0, 0)) (by (with_reducible repeat first | apply kN | apply kD | apply kA); refine blk_put (cs := #[.int .i64 ((rd_T62 l0 x13_1).f0), .int .i64 ((rd_T62 l0 x13_1).f1), .int .i64 ((rd_T62 l0 x13_1).f2), .int .i64 ((rd_T62 l0 x13_1).f3), .int .i64 ((rd_T62 l0 x13_1).f4.f0), .int .i64 0]) ?_ 5 _ rfl; (with_reducible repeat first | apply kN | apply kD | apply kA); refine blk_put (cs := #[.int .i64 ((rd_T62 l0 x13_1).f0), .int .i64 ((rd_T62 l0 x13_1).f1), .int .i64 ((rd_T62 l0 x13_1).f2), .int .i64 ((rd_T62 l0 x13_1).f3), .int .i64 0, .int .i64 0]) ?_ 4 _ rfl; (with_reducible repeat first | apply kN | apply kD | apply kA); refine blk_put (cs := #[.int .i64 ((rd_T62 l0 x13_1).f0), .int .i64 ((rd_T62 l0 x13_1).f1), .int .i64 ((rd_T62 l0 x13_1).f2), .int .i64 0, .int .i64 0, .int .i64 0]) ?_ 3 _ rfl; (with_reducible repeat first | apply kN | apply kD | apply kA); refine blk_put (cs := #[.int .i64 ((rd_T62 l0 x13_1).f0), .int .i64 ((rd_T62 l0 x13_1).f1), .int .i64 0, .int .i64 0, .int .i64 0, .int .i64 0]) ?_ 2 _ rfl; (with_reducible repeat first | apply kN | apply kD | apply kA); refine blk_put (cs := #[.int .i64 ((rd_T62 l0 x13_1).f0), .int .i64 0, .int .i64 0, .int .i64 0, .int .i64 0, .int .i64 0]) ?_ 1 _ rfl; (with_reducible repeat first | apply kN | apply kD | apply kA); refine blk_put (cs := #[.int .i64 0, .int .i64 0, .int .i64 0, .int .i64 0, .int .i64 0, .int .i64 0]) ?_ 0 _ rfl; (with_reducible repeat first | apply kN | apply kD | apply kA); exact BK187.out) hb); replace HB := am (below_step bz hb); (try clear hb); (try clear hb2); (try clear hk); (try clear hi)))
       go_ret
       exact ⟨ez, bz⟩
      ·
       replace c11 := Bool.eq_false_iff.mpr c11
       subst c11
       have H1 : ((collide_has.f ((rd_T62 l0 x13_1).f4.f0) ((rd_T62 l0 x13_1).f4.f1) (wrap64 (a3 + 1))).bind fun t189 => (if t189 = true then (some true) else (collide_contact.l0 k1 a1 a2 a3 l0 (l0.length : Int) (wrap64 (x13_1 + 1))))) = some r := by rw [if_neg (show ¬ (false = true) by decide)] at H; exact H
       clear H
       have H := H1
       clear H1
       replace H := Option.bind_eq_some_iff.mp H
       obtain ⟨t189, A150, H⟩ := H
       replace H : (if t189 = true then (some true) else (collide_contact.l0 k1 a1 a2 a3 l0 (l0.length : Int) (wrap64 (x13_1 + 1)))) = some r := H
       have A15 := am A150
       clear A150
       by_cases c16 : t189 = true
       ·
        subst c16
        have H1 : (some true) = some r := by rw [if_pos rfl] at H; exact H
        clear H
        have H := H1
        clear H1
        obtain rfl := Option.some.inj H
        have p186 : 0 ≤ (x13_1 : Int) := az
        have q186 : x13_1 < (l0.length : Int) := az
        obtain ⟨ad186, e186, hx186_0, hx186_1, hx186_2, hx186_3, hx186_4, hx186_5⟩ := at_T62 HR0.out x13_1 p186 q186
        cases e186
        replace hx186_0 := cb HB.out hx186_0
        replace hx186_1 := cb HB.out hx186_1
        replace hx186_2 := cb HB.out hx186_2
        replace hx186_3 := cb HB.out hx186_3
        replace hx186_4 := cb HB.out hx186_4
        replace hx186_5 := cb HB.out hx186_5
        replace p186 := eq_true p186
        replace q186 := eq_true q186
        go_wp2_with (first | ((with_reducible refine gate_dst (N := 10) rfl ?_); refine box_event yz (N := 10) yz (cs := #[.int .i64 0, .int .i64 0, .int .i64 0, .int .i64 0, .int .i64 0, .int .i64 0]) (t := 62) gz ?_; intro gb187 hg w17 hbox hb; have BK187 := am (hbox); have GW187 := gwz (g := gb187) HB hg; have GE187 := GW187; replace HB := am (below_step bz hb); clear hb hbox hg; obtain ⟨hcz18_0, hcz18_1, hcz18_2, hcz18_3, hcz18_4, hcz18_5, hfz18_0, hfz18_1, hfz18_2, hfz18_3, hfz18_4, hfz18_5⟩ := kc6 BK187.out) | (go_at_call 68; (with_reducible refine (collide_has.calls ((rd_T62 l0 x13_1).f4.f0) ((rd_T62 l0 x13_1).f4.f1) a3 false _ A10.out).mono ?_); rintro e w19 ⟨rfl, hb⟩; replace BK187 := am (blk_below (o := .cells #[.int .i64 ((rd_T62 l0 x13_1).f0), .int .i64 ((rd_T62 l0 x13_1).f1), .int .i64 ((rd_T62 l0 x13_1).f2), .int .i64 ((rd_T62 l0 x13_1).f3), .int .i64 ((rd_T62 l0 x13_1).f4.f0), .int .i64 ((rd_T62 l0 x13_1).f4.f1)] 62 (0, 0)) (by (with_reducible repeat first | apply kN | apply kD | apply kA); refine blk_put (cs := #[.int .i64 ((rd_T62 l0 x13_1).f0), .int .i64 ((rd_T62 l0 x13_1).f1), .int .i64 ((rd_T62 l0 x13_1).f2), .int .i64 ((rd_T62 l0 x13_1).f3), .int .i64 ((rd_T62 l0 x13_1).f4.f0), .int .i64 0]) ?_ 5 _ rfl; (with_reducible repeat first | apply kN | apply kD | apply kA); refine blk_put (cs := #[.int .i64 ((rd_T62 l0 x13_1).f0), .int .i64 ((rd_T62 l0 x13_1).f1), .int .i64 ((rd_T62 l0 x13_1).f2), .int .i64 ((rd_T62 l0 x13_1).f3), .int .i64 0, .int .i64 0]) ?_ 4 _ rfl; (with_reducible repeat first | apply kN | apply kD | apply kA); refine blk_put (cs := #[.int .i64 ((rd_T62 l0 x13_1).f0), .int .i64 ((rd_T62 l0 x13_1).f1), .int .i64 ((rd_T62 l0 x13_1).f2), .int .i64 0, .int .i64 0, .int .i64 0]) ?_ 3 _ rfl; (with_reducible repeat first | apply kN | apply kD | apply kA); refine blk_put (cs := #[.int .i64 ((rd_T62 l0 x13_1).f0), .int .i64 ((rd_T62 l0 x13_1).f1), .int .i64 0, .int .i64 0, .int .i64 0, .int .i64 0]) ?_ 2 _ rfl; (with_reducible repeat first | apply kN | apply kD | apply kA); refine blk_put (cs := #[.int .i64 ((rd_T62 l0 x13_1).f0), .int .i64 0, .int .i64 0, .int .i64 0, .int .i64 0, .int .i64 0]) ?_ 1 _ rfl; (with_reducible repeat first | apply kN | apply kD | apply kA); refine blk_put (cs := #[.int .i64 0, .int .i64 0, .int .i64 0, .int .i64 0, .int .i64 0, .int .i64 0]) ?_ 0 _ rfl; (with_reducible repeat first | apply kN | apply kD | apply kA); exact BK187.out) hb); replace HB := am (below_step bz hb); (try clear hb); (try clear hb2); (try clear hk); (try clear hi); obtain ⟨hcz20_0, hcz20_1, hcz20_2, hcz20_3, hcz20_4, hcz20_5, hfz20_0, hfz20_1, hfz20_2, hfz20_3, hfz20_4, hfz20_5⟩ := kc6 BK187.out) | (go_at_call 68; (with_reducible refine (collide_has.calls ((rd_T62 l0 x13_1).f4.f0) ((rd_T62 l0 x13_1).f4.f1) (wrap64 (a3 + 1)) true _ A15.out).mono ?_); rintro e w21 ⟨rfl, hb⟩; replace BK187 := am (blk_below (o := .cells #[.int .i64 ((rd_T62 l0 x13_1).f0), .int .i64 ((rd_T62 l0 x13_1).f1), .int .i64 ((rd_T62 l0 x13_1).f2), .int .i64 ((rd_T62 l0 x13_1).f3), .int .i64 ((rd_T62 l0 x13_1).f4.f0), .int .i64 ((rd_T62 l0 x13_1).f4.f1)] 62 (0, 0)) (kz BK187) hb); replace HB := am (below_step bz hb); (try clear hb); (try clear hb2); (try clear hk); (try clear hi)))
        go_ret
        exact ⟨ez, bz⟩
       ·
        replace c16 := Bool.eq_false_iff.mpr c16
        subst c16
        have H1 : (collide_contact.l0 k1 a1 a2 a3 l0 (l0.length : Int) (wrap64 (x13_1 + 1))) = some r := by rw [if_neg (show ¬ (false = true) by decide)] at H; exact H
        clear H
        have H := H1
        clear H1
        have H' := am H
        clear H
        have p186 : 0 ≤ (x13_1 : Int) := az
        have q186 : x13_1 < (l0.length : Int) := az
        obtain ⟨ad186, e186, hx186_0, hx186_1, hx186_2, hx186_3, hx186_4, hx186_5⟩ := at_T62 HR0.out x13_1 p186 q186
        cases e186
        replace hx186_0 := cb HB.out hx186_0
        replace hx186_1 := cb HB.out hx186_1
        replace hx186_2 := cb HB.out hx186_2
        replace hx186_3 := cb HB.out hx186_3
        replace hx186_4 := cb HB.out hx186_4
        replace hx186_5 := cb HB.out hx186_5
        replace p186 := eq_true p186
        replace q186 := eq_true q186
        go_wp2_with (first | ((with_reducible refine gate_dst (N := 10) rfl ?_); refine box_event yz (N := 10) yz (cs := #[.int .i64 0, .int .i64 0, .int .i64 0, .int .i64 0, .int .i64 0, .int .i64 0]) (t := 62) gz ?_; intro gb187 hg w22 hbox hb; have BK187 := am (hbox); have GW187 := gwz (g := gb187) HB hg; have GE187 := GW187; replace HB := am (below_step bz hb); clear hb hbox hg; obtain ⟨hcz23_0, hcz23_1, hcz23_2, hcz23_3, hcz23_4, hcz23_5, hfz23_0, hfz23_1, hfz23_2, hfz23_3, hfz23_4, hfz23_5⟩ := kc6 BK187.out) | (go_at_call 68; (with_reducible refine (collide_has.calls ((rd_T62 l0 x13_1).f4.f0) ((rd_T62 l0 x13_1).f4.f1) a3 false _ A10.out).mono ?_); rintro e w24 ⟨rfl, hb⟩; replace BK187 := am (blk_below (o := .cells #[.int .i64 ((rd_T62 l0 x13_1).f0), .int .i64 ((rd_T62 l0 x13_1).f1), .int .i64 ((rd_T62 l0 x13_1).f2), .int .i64 ((rd_T62 l0 x13_1).f3), .int .i64 ((rd_T62 l0 x13_1).f4.f0), .int .i64 ((rd_T62 l0 x13_1).f4.f1)] 62 (0, 0)) (by (with_reducible repeat first | apply kN | apply kD | apply kA); refine blk_put (cs := #[.int .i64 ((rd_T62 l0 x13_1).f0), .int .i64 ((rd_T62 l0 x13_1).f1), .int .i64 ((rd_T62 l0 x13_1).f2), .int .i64 ((rd_T62 l0 x13_1).f3), .int .i64 ((rd_T62 l0 x13_1).f4.f0), .int .i64 0]) ?_ 5 _ rfl; (with_reducible repeat first | apply kN | apply kD | apply kA); refine blk_put (cs := #[.int .i64 ((rd_T62 l0 x13_1).f0), .int .i64 ((rd_T62 l0 x13_1).f1), .int .i64 ((rd_T62 l0 x13_1).f2), .int .i64 ((rd_T62 l0 x13_1).f3), .int .i64 0, .int .i64 0]) ?_ 4 _ rfl; (with_reducible repeat first | apply kN | apply kD | apply kA); refine blk_put (cs := #[.int .i64 ((rd_T62 l0 x13_1).f0), .int .i64 ((rd_T62 l0 x13_1).f1), .int .i64 ((rd_T62 l0 x13_1).f2), .int .i64 0, .int .i64 0, .int .i64 0]) ?_ 3 _ rfl; (with_reducible repeat first | apply kN | apply kD | apply kA); refine blk_put (cs := #[.int .i64 ((rd_T62 l0 x13_1).f0), .int .i64 ((rd_T62 l0 x13_1).f1), .int .i64 0, .int .i64 0, .int .i64 0, .int .i64 0]) ?_ 2 _ rfl; (with_reducible repeat first | apply kN | apply kD | apply kA); refine blk_put (cs := #[.int .i64 ((rd_T62 l0 x13_1).f0), .int .i64 0, .int .i64 0, .int .i64 0, .int .i64 0, .int .i64 0]) ?_ 1 _ rfl; (with_reducible repeat first | apply kN | apply kD | apply kA); refine blk_put (cs := #[.int .i64 0, .int .i64 0, .int .i64 0, .int .i64 0, .int .i64 0, .int .i64 0]) ?_ 0 _ rfl; (with_reducible repeat first | apply kN | apply kD | apply kA); exact BK187.out) hb); replace HB := am (below_step bz hb); (try clear hb); (try clear hb2); (try clear hk); (try clear hi); obtain ⟨hcz25_0, hcz25_1, hcz25_2, hcz25_3, hcz25_4, hcz25_5, hfz25_0, hfz25_1, hfz25_2, hfz25_3, hfz25_4, hfz25_5⟩ := kc6 BK187.out) | (go_at_call 68; (with_reducible refine (collide_has.calls ((rd_T62 l0 x13_1).f4.f0) ((rd_T62 l0 x13_1).f4.f1) (wrap64 (a3 + 1)) false _ A15.out).mono ?_); rintro e w26 ⟨rfl, hb⟩; replace BK187 := am (blk_below (o := .cells #[.int .i64 ((rd_T62 l0 x13_1).f0), .int .i64 ((rd_T62 l0 x13_1).f1), .int .i64 ((rd_T62 l0 x13_1).f2), .int .i64 ((rd_T62 l0 x13_1).f3), .int .i64 ((rd_T62 l0 x13_1).f4.f0), .int .i64 ((rd_T62 l0 x13_1).f4.f1)] 62 (0, 0)) (kz BK187) hb); replace HB := am (below_step bz hb); (try clear hb); (try clear hb2); (try clear hk); (try clear hi)))
        go_roundg k1
        case measure => have := HK1.out; omega
        case rel => exact ⟨(wrap64 (x13_1 + 1)), sz, H', ⟨by have := HK1.out; omega⟩, ⟨bz⟩⟩
     ·
      rw [if_neg c9] at H
      have c9b0 : (((rd_T62 l0 x13_1).f2) == a2) = false := beq_eq_false_iff_ne.mpr c9
      have c9b1 : (((rd_T62 l0 x13_1).f2) != a2) = true := bne_iff_ne.mpr c9
      by_cases c27 : ((rd_T62 l0 x13_1).f0) = a2
      ·
       rw [if_pos c27] at H
       have c27b0 : (((rd_T62 l0 x13_1).f0) == a2) = true := beq_iff_eq.mpr c27
       have c27b1 : (((rd_T62 l0 x13_1).f0) != a2) = false := bne_eq_false_iff_eq.mpr c27
       clear c27
       by_cases c28 : ((rd_T62 l0 x13_1).f2) = a1
       ·
        rw [if_pos c28] at H
        have c28b0 : (((rd_T62 l0 x13_1).f2) == a1) = true := beq_iff_eq.mpr c28
        have c28b1 : (((rd_T62 l0 x13_1).f2) != a1) = false := bne_eq_false_iff_eq.mpr c28
        clear c28
        replace H := Option.bind_eq_some_iff.mp H
        obtain ⟨t190, A290, H⟩ := H
        replace H : (if t190 = true then (some true) else ((collide_has.f ((rd_T62 l0 x13_1).f4.f0) ((rd_T62 l0 x13_1).f4.f1) (wrap64 (a3 + 1))).bind fun t191 => (if t191 = true then (some true) else (collide_contact.l0 k1 a1 a2 a3 l0 (l0.length : Int) (wrap64 (x13_1 + 1)))))) = some r := H
        have A29 := am A290
        clear A290
        by_cases c30 : t190 = true
        ·
         subst c30
         have H1 : (some true) = some r := by rw [if_pos rfl] at H; exact H
         clear H
         have H := H1
         clear H1
         obtain rfl := Option.some.inj H
         have p186 : 0 ≤ (x13_1 : Int) := az
         have q186 : x13_1 < (l0.length : Int) := az
         obtain ⟨ad186, e186, hx186_0, hx186_1, hx186_2, hx186_3, hx186_4, hx186_5⟩ := at_T62 HR0.out x13_1 p186 q186
         cases e186
         replace hx186_0 := cb HB.out hx186_0
         replace hx186_1 := cb HB.out hx186_1
         replace hx186_2 := cb HB.out hx186_2
         replace hx186_3 := cb HB.out hx186_3
         replace hx186_4 := cb HB.out hx186_4
         replace hx186_5 := cb HB.out hx186_5
         replace p186 := eq_true p186
         replace q186 := eq_true q186
         go_wp2_with (first | ((with_reducible refine gate_dst (N := 10) rfl ?_); refine box_event yz (N := 10) yz (cs := #[.int .i64 0, .int .i64 0, .int .i64 0, .int .i64 0, .int .i64 0, .int .i64 0]) (t := 62) gz ?_; intro gb187 hg w31 hbox hb; have BK187 := am (hbox); have GW187 := gwz (g := gb187) HB hg; have GE187 := GW187; replace HB := am (below_step bz hb); clear hb hbox hg; obtain ⟨hcz32_0, hcz32_1, hcz32_2, hcz32_3, hcz32_4, hcz32_5, hfz32_0, hfz32_1, hfz32_2, hfz32_3, hfz32_4, hfz32_5⟩ := kc6 BK187.out) | (go_at_call 68; (with_reducible refine (collide_has.calls ((rd_T62 l0 x13_1).f4.f0) ((rd_T62 l0 x13_1).f4.f1) a3 true _ A29.out).mono ?_); rintro e w33 ⟨rfl, hb⟩; replace BK187 := am (blk_below (o := .cells #[.int .i64 ((rd_T62 l0 x13_1).f0), .int .i64 ((rd_T62 l0 x13_1).f1), .int .i64 ((rd_T62 l0 x13_1).f2), .int .i64 ((rd_T62 l0 x13_1).f3), .int .i64 ((rd_T62 l0 x13_1).f4.f0), .int .i64 ((rd_T62 l0 x13_1).f4.f1)] 62 (0, 0)) (by (with_reducible repeat first | apply kN | apply kD | apply kA); refine blk_put (cs := #[.int .i64 ((rd_T62 l0 x13_1).f0), .int .i64 ((rd_T62 l0 x13_1).f1), .int .i64 ((rd_T62 l0 x13_1).f2), .int .i64 ((rd_T62 l0 x13_1).f3), .int .i64 ((rd_T62 l0 x13_1).f4.f0), .int .i64 0]) ?_ 5 _ rfl; (with_reducible repeat first | apply kN | apply kD | apply kA); refine blk_put (cs := #[.int .i64 ((rd_T62 l0 x13_1).f0), .int .i64 ((rd_T62 l0 x13_1).f1), .int .i64 ((rd_T62 l0 x13_1).f2), .int .i64 ((rd_T62 l0 x13_1).f3), .int .i64 0, .int .i64 0]) ?_ 4 _ rfl; (with_reducible repeat first | apply kN | apply kD | apply kA); refine blk_put (cs := #[.int .i64 ((rd_T62 l0 x13_1).f0), .int .i64 ((rd_T62 l0 x13_1).f1), .int .i64 ((rd_T62 l0 x13_1).f2), .int .i64 0, .int .i64 0, .int .i64 0]) ?_ 3 _ rfl; (with_reducible repeat first | apply kN | apply kD | apply kA); refine blk_put (cs := #[.int .i64 ((rd_T62 l0 x13_1).f0), .int .i64 ((rd_T62 l0 x13_1).f1), .int .i64 0, .int .i64 0, .int .i64 0, .int .i64 0]) ?_ 2 _ rfl; (with_reducible repeat first | apply kN | apply kD | apply kA); refine blk_put (cs := #[.int .i64 ((rd_T62 l0 x13_1).f0), .int .i64 0, .int .i64 0, .int .i64 0, .int .i64 0, .int .i64 0]) ?_ 1 _ rfl; (with_reducible repeat first | apply kN | apply kD | apply kA); refine blk_put (cs := #[.int .i64 0, .int .i64 0, .int .i64 0, .int .i64 0, .int .i64 0, .int .i64 0]) ?_ 0 _ rfl; (with_reducible repeat first | apply kN | apply kD | apply kA); exact BK187.out) hb); replace HB := am (below_step bz hb); (try clear hb); (try clear hb2); (try clear hk); (try clear hi)))
         go_ret
         exact ⟨ez, bz⟩
        ·
         replace c30 := Bool.eq_false_iff.mpr c30
         subst c30
         have H1 : ((collide_has.f ((rd_T62 l0 x13_1).f4.f0) ((rd_T62 l0 x13_1).f4.f1) (wrap64 (a3 + 1))).bind fun t191 => (if t191 = true then (some true) else (collide_contact.l0 k1 a1 a2 a3 l0 (l0.length : Int) (wrap64 (x13_1 + 1))))) = some r := by rw [if_neg (show ¬ (false = true) by decide)] at H; exact H
         clear H
         have H := H1
         clear H1
         replace H := Option.bind_eq_some_iff.mp H
         obtain ⟨t191, A340, H⟩ := H
         replace H : (if t191 = true then (some true) else (collide_contact.l0 k1 a1 a2 a3 l0 (l0.length : Int) (wrap64 (x13_1 + 1)))) = some r := H
         have A34 := am A340
         clear A340
         by_cases c35 : t191 = true
         ·
          subst c35
          have H1 : (some true) = some r := by rw [if_pos rfl] at H; exact H
          clear H
          have H := H1
          clear H1
          obtain rfl := Option.some.inj H
          have p186 : 0 ≤ (x13_1 : Int) := az
          have q186 : x13_1 < (l0.length : Int) := az
          obtain ⟨ad186, e186, hx186_0, hx186_1, hx186_2, hx186_3, hx186_4, hx186_5⟩ := at_T62 HR0.out x13_1 p186 q186
          cases e186
          replace hx186_0 := cb HB.out hx186_0
          replace hx186_1 := cb HB.out hx186_1
          replace hx186_2 := cb HB.out hx186_2
          replace hx186_3 := cb HB.out hx186_3
          replace hx186_4 := cb HB.out hx186_4
          replace hx186_5 := cb HB.out hx186_5
          replace p186 := eq_true p186
          replace q186 := eq_true q186
          go_wp2_with (first | ((with_reducible refine gate_dst (N := 10) rfl ?_); refine box_event yz (N := 10) yz (cs := #[.int .i64 0, .int .i64 0, .int .i64 0, .int .i64 0, .int .i64 0, .int .i64 0]) (t := 62) gz ?_; intro gb187 hg w36 hbox hb; have BK187 := am (hbox); have GW187 := gwz (g := gb187) HB hg; have GE187 := GW187; replace HB := am (below_step bz hb); clear hb hbox hg; obtain ⟨hcz37_0, hcz37_1, hcz37_2, hcz37_3, hcz37_4, hcz37_5, hfz37_0, hfz37_1, hfz37_2, hfz37_3, hfz37_4, hfz37_5⟩ := kc6 BK187.out) | (go_at_call 68; (with_reducible refine (collide_has.calls ((rd_T62 l0 x13_1).f4.f0) ((rd_T62 l0 x13_1).f4.f1) a3 false _ A29.out).mono ?_); rintro e w38 ⟨rfl, hb⟩; replace BK187 := am (blk_below (o := .cells #[.int .i64 ((rd_T62 l0 x13_1).f0), .int .i64 ((rd_T62 l0 x13_1).f1), .int .i64 ((rd_T62 l0 x13_1).f2), .int .i64 ((rd_T62 l0 x13_1).f3), .int .i64 ((rd_T62 l0 x13_1).f4.f0), .int .i64 ((rd_T62 l0 x13_1).f4.f1)] 62 (0, 0)) (by (with_reducible repeat first | apply kN | apply kD | apply kA); refine blk_put (cs := #[.int .i64 ((rd_T62 l0 x13_1).f0), .int .i64 ((rd_T62 l0 x13_1).f1), .int .i64 ((rd_T62 l0 x13_1).f2), .int .i64 ((rd_T62 l0 x13_1).f3), .int .i64 ((rd_T62 l0 x13_1).f4.f0), .int .i64 0]) ?_ 5 _ rfl; (with_reducible repeat first | apply kN | apply kD | apply kA); refine blk_put (cs := #[.int .i64 ((rd_T62 l0 x13_1).f0), .int .i64 ((rd_T62 l0 x13_1).f1), .int .i64 ((rd_T62 l0 x13_1).f2), .int .i64 ((rd_T62 l0 x13_1).f3), .int .i64 0, .int .i64 0]) ?_ 4 _ rfl; (with_reducible repeat first | apply kN | apply kD | apply kA); refine blk_put (cs := #[.int .i64 ((rd_T62 l0 x13_1).f0), .int .i64 ((rd_T62 l0 x13_1).f1), .int .i64 ((rd_T62 l0 x13_1).f2), .int .i64 0, .int .i64 0, .int .i64 0]) ?_ 3 _ rfl; (with_reducible repeat first | apply kN | apply kD | apply kA); refine blk_put (cs := #[.int .i64 ((rd_T62 l0 x13_1).f0), .int .i64 ((rd_T62 l0 x13_1).f1), .int .i64 0, .int .i64 0, .int .i64 0, .int .i64 0]) ?_ 2 _ rfl; (with_reducible repeat first | apply kN | apply kD | apply kA); refine blk_put (cs := #[.int .i64 ((rd_T62 l0 x13_1).f0), .int .i64 0, .int .i64 0, .int .i64 0, .int .i64 0, .int .i64 0]) ?_ 1 _ rfl; (with_reducible repeat first | apply kN | apply kD | apply kA); refine blk_put (cs := #[.int .i64 0, .int .i64 0, .int .i64 0, .int .i64 0, .int .i64 0, .int .i64 0]) ?_ 0 _ rfl; (with_reducible repeat first | apply kN | apply kD | apply kA); exact BK187.out) hb); replace HB := am (below_step bz hb); (try clear hb); (try clear hb2); (try clear hk); (try clear hi); obtain ⟨hcz39_0, hcz39_1, hcz39_2, hcz39_3, hcz39_4, hcz39_5, hfz39_0, hfz39_1, hfz39_2, hfz39_3, hfz39_4, hfz39_5⟩ := kc6 BK187.out) | (go_at_call 68; (with_reducible refine (collide_has.calls ((rd_T62 l0 x13_1).f4.f0) ((rd_T62 l0 x13_1).f4.f1) (wrap64 (a3 + 1)) true _ A34.out).mono ?_); rintro e w40 ⟨rfl, hb⟩; replace BK187 := am (blk_below (o := .cells #[.int .i64 ((rd_T62 l0 x13_1).f0), .int .i64 ((rd_T62 l0 x13_1).f1), .int .i64 ((rd_T62 l0 x13_1).f2), .int .i64 ((rd_T62 l0 x13_1).f3), .int .i64 ((rd_T62 l0 x13_1).f4.f0), .int .i64 ((rd_T62 l0 x13_1).f4.f1)] 62 (0, 0)) (kz BK187) hb); replace HB := am (below_step bz hb); (try clear hb); (try clear hb2); (try clear hk); (try clear hi)))
          go_ret
          exact ⟨ez, bz⟩
         ·
          replace c35 := Bool.eq_false_iff.mpr c35
          subst c35
          have H1 : (collide_contact.l0 k1 a1 a2 a3 l0 (l0.length : Int) (wrap64 (x13_1 + 1))) = some r := by rw [if_neg (show ¬ (false = true) by decide)] at H; exact H
          clear H
          have H := H1
          clear H1
          have H' := am H
          clear H
          have p186 : 0 ≤ (x13_1 : Int) := az
          have q186 : x13_1 < (l0.length : Int) := az
          obtain ⟨ad186, e186, hx186_0, hx186_1, hx186_2, hx186_3, hx186_4, hx186_5⟩ := at_T62 HR0.out x13_1 p186 q186
          cases e186
          replace hx186_0 := cb HB.out hx186_0
          replace hx186_1 := cb HB.out hx186_1
          replace hx186_2 := cb HB.out hx186_2
          replace hx186_3 := cb HB.out hx186_3
          replace hx186_4 := cb HB.out hx186_4
          replace hx186_5 := cb HB.out hx186_5
          replace p186 := eq_true p186
          replace q186 := eq_true q186
          go_wp2_with (first | ((with_reducible refine gate_dst (N := 10) rfl ?_); refine box_event yz (N := 10) yz (cs := #[.int .i64 0, .int .i64 0, .int .i64 0, .int .i64 0, .int .i64 0, .int .i64 0]) (t := 62) gz ?_; intro gb187 hg w41 hbox hb; have BK187 := am (hbox); have GW187 := gwz (g := gb187) HB hg; have GE187 := GW187; replace HB := am (below_step bz hb); clear hb hbox hg; obtain ⟨hcz42_0, hcz42_1, hcz42_2, hcz42_3, hcz42_4, hcz42_5, hfz42_0, hfz42_1, hfz42_2, hfz42_3, hfz42_4, hfz42_5⟩ := kc6 BK187.out) | (go_at_call 68; (with_reducible refine (collide_has.calls ((rd_T62 l0 x13_1).f4.f0) ((rd_T62 l0 x13_1).f4.f1) a3 false _ A29.out).mono ?_); rintro e w43 ⟨rfl, hb⟩; replace BK187 := am (blk_below (o := .cells #[.int .i64 ((rd_T62 l0 x13_1).f0), .int .i64 ((rd_T62 l0 x13_1).f1), .int .i64 ((rd_T62 l0 x13_1).f2), .int .i64 ((rd_T62 l0 x13_1).f3), .int .i64 ((rd_T62 l0 x13_1).f4.f0), .int .i64 ((rd_T62 l0 x13_1).f4.f1)] 62 (0, 0)) (by (with_reducible repeat first | apply kN | apply kD | apply kA); refine blk_put (cs := #[.int .i64 ((rd_T62 l0 x13_1).f0), .int .i64 ((rd_T62 l0 x13_1).f1), .int .i64 ((rd_T62 l0 x13_1).f2), .int .i64 ((rd_T62 l0 x13_1).f3), .int .i64 ((rd_T62 l0 x13_1).f4.f0), .int .i64 0]) ?_ 5 _ rfl; (with_reducible repeat first | apply kN | apply kD | apply kA); refine blk_put (cs := #[.int .i64 ((rd_T62 l0 x13_1).f0), .int .i64 ((rd_T62 l0 x13_1).f1), .int .i64 ((rd_T62 l0 x13_1).f2), .int .i64 ((rd_T62 l0 x13_1).f3), .int .i64 0, .int .i64 0]) ?_ 4 _ rfl; (with_reducible repeat first | apply kN | apply kD | apply kA); refine blk_put (cs := #[.int .i64 ((rd_T62 l0 x13_1).f0), .int .i64 ((rd_T62 l0 x13_1).f1), .int .i64 ((rd_T62 l0 x13_1).f2), .int .i64 0, .int .i64 0, .int .i64 0]) ?_ 3 _ rfl; (with_reducible repeat first | apply kN | apply kD | apply kA); refine blk_put (cs := #[.int .i64 ((rd_T62 l0 x13_1).f0), .int .i64 ((rd_T62 l0 x13_1).f1), .int .i64 0, .int .i64 0, .int .i64 0, .int .i64 0]) ?_ 2 _ rfl; (with_reducible repeat first | apply kN | apply kD | apply kA); refine blk_put (cs := #[.int .i64 ((rd_T62 l0 x13_1).f0), .int .i64 0, .int .i64 0, .int .i64 0, .int .i64 0, .int .i64 0]) ?_ 1 _ rfl; (with_reducible repeat first | apply kN | apply kD | apply kA); refine blk_put (cs := #[.int .i64 0, .int .i64 0, .int .i64 0, .int .i64 0, .int .i64 0, .int .i64 0]) ?_ 0 _ rfl; (with_reducible repeat first | apply kN | apply kD | apply kA); exact BK187.out) hb); replace HB := am (below_step bz hb); (try clear hb); (try clear hb2); (try clear hk); (try clear hi); obtain ⟨hcz44_0, hcz44_1, hcz44_2, hcz44_3, hcz44_4, hcz44_5, hfz44_0, hfz44_1, hfz44_2, hfz44_3, hfz44_4, hfz44_5⟩ := kc6 BK187.out) | (go_at_call 68; (with_reducible refine (collide_has.calls ((rd_T62 l0 x13_1).f4.f0) ((rd_T62 l0 x13_1).f4.f1) (wrap64 (a3 + 1)) false _ A34.out).mono ?_); rintro e w45 ⟨rfl, hb⟩; replace BK187 := am (blk_below (o := .cells #[.int .i64 ((rd_T62 l0 x13_1).f0), .int .i64 ((rd_T62 l0 x13_1).f1), .int .i64 ((rd_T62 l0 x13_1).f2), .int .i64 ((rd_T62 l0 x13_1).f3), .int .i64 ((rd_T62 l0 x13_1).f4.f0), .int .i64 ((rd_T62 l0 x13_1).f4.f1)] 62 (0, 0)) (kz BK187) hb); replace HB := am (below_step bz hb); (try clear hb); (try clear hb2); (try clear hk); (try clear hi)))
          go_roundg k1
          case measure => have := HK1.out; omega
          case rel => exact ⟨(wrap64 (x13_1 + 1)), sz, H', ⟨by have := HK1.out; omega⟩, ⟨bz⟩⟩
       ·
        rw [if_neg c28] at H
        have c28b0 : (((rd_T62 l0 x13_1).f2) == a1) = false := beq_eq_false_iff_ne.mpr c28
        have c28b1 : (((rd_T62 l0 x13_1).f2) != a1) = true := bne_iff_ne.mpr c28
        have H' := am H
        clear H
        have p186 : 0 ≤ (x13_1 : Int) := az
        have q186 : x13_1 < (l0.length : Int) := az
        obtain ⟨ad186, e186, hx186_0, hx186_1, hx186_2, hx186_3, hx186_4, hx186_5⟩ := at_T62 HR0.out x13_1 p186 q186
        cases e186
        replace hx186_0 := cb HB.out hx186_0
        replace hx186_1 := cb HB.out hx186_1
        replace hx186_2 := cb HB.out hx186_2
        replace hx186_3 := cb HB.out hx186_3
        replace hx186_4 := cb HB.out hx186_4
        replace hx186_5 := cb HB.out hx186_5
        replace p186 := eq_true p186
        replace q186 := eq_true q186
        go_wp2_with (first | ((with_reducible refine gate_dst (N := 10) rfl ?_); refine box_event yz (N := 10) yz (cs := #[.int .i64 0, .int .i64 0, .int .i64 0, .int .i64 0, .int .i64 0, .int .i64 0]) (t := 62) gz ?_; intro gb187 hg w46 hbox hb; have BK187 := am (hbox); have GW187 := gwz (g := gb187) HB hg; have GE187 := GW187; replace HB := am (below_step bz hb); clear hb hbox hg; obtain ⟨hcz47_0, hcz47_1, hcz47_2, hcz47_3, hcz47_4, hcz47_5, hfz47_0, hfz47_1, hfz47_2, hfz47_3, hfz47_4, hfz47_5⟩ := kc6 BK187.out))
        go_roundg k1
        case measure => have := HK1.out; omega
        case rel => exact ⟨(wrap64 (x13_1 + 1)), sz, H', ⟨by have := HK1.out; omega⟩, ⟨bz⟩⟩
      ·
       rw [if_neg c27] at H
       have c27b0 : (((rd_T62 l0 x13_1).f0) == a2) = false := beq_eq_false_iff_ne.mpr c27
       have c27b1 : (((rd_T62 l0 x13_1).f0) != a2) = true := bne_iff_ne.mpr c27
       have H' := am H
       clear H
       have p186 : 0 ≤ (x13_1 : Int) := az
       have q186 : x13_1 < (l0.length : Int) := az
       obtain ⟨ad186, e186, hx186_0, hx186_1, hx186_2, hx186_3, hx186_4, hx186_5⟩ := at_T62 HR0.out x13_1 p186 q186
       cases e186
       replace hx186_0 := cb HB.out hx186_0
       replace hx186_1 := cb HB.out hx186_1
       replace hx186_2 := cb HB.out hx186_2
       replace hx186_3 := cb HB.out hx186_3
       replace hx186_4 := cb HB.out hx186_4
       replace hx186_5 := cb HB.out hx186_5
       replace p186 := eq_true p186
       replace q186 := eq_true q186
       go_wp2_with (first | ((with_reducible refine gate_dst (N := 10) rfl ?_); refine box_event yz (N := 10) yz (cs := #[.int .i64 0, .int .i64 0, .int .i64 0, .int .i64 0, .int .i64 0, .int .i64 0]) (t := 62) gz ?_; intro gb187 hg w48 hbox hb; have BK187 := am (hbox); have GW187 := gwz (g := gb187) HB hg; have GE187 := GW187; replace HB := am (below_step bz hb); clear hb hbox hg; obtain ⟨hcz49_0, hcz49_1, hcz49_2, hcz49_3, hcz49_4, hcz49_5, hfz49_0, hfz49_1, hfz49_2, hfz49_3, hfz49_4, hfz49_5⟩ := kc6 BK187.out))
       go_roundg k1
       case measure => have := HK1.out; omega
       case rel => exact ⟨(wrap64 (x13_1 + 1)), sz, H', ⟨by have := HK1.out; omega⟩, ⟨bz⟩⟩
    ·
     rw [if_neg c8] at H
     have c8b0 : (((rd_T62 l0 x13_1).f0) == a1) = false := beq_eq_false_iff_ne.mpr c8
     have c8b1 : (((rd_T62 l0 x13_1).f0) != a1) = true := bne_iff_ne.mpr c8
     by_cases c50 : ((rd_T62 l0 x13_1).f0) = a2
     ·
      rw [if_pos c50] at H
      have c50b0 : (((rd_T62 l0 x13_1).f0) == a2) = true := beq_iff_eq.mpr c50
      have c50b1 : (((rd_T62 l0 x13_1).f0) != a2) = false := bne_eq_false_iff_eq.mpr c50
      clear c50
      by_cases c51 : ((rd_T62 l0 x13_1).f2) = a1
      ·
       rw [if_pos c51] at H
       have c51b0 : (((rd_T62 l0 x13_1).f2) == a1) = true := beq_iff_eq.mpr c51
       have c51b1 : (((rd_T62 l0 x13_1).f2) != a1) = false := bne_eq_false_iff_eq.mpr c51
       clear c51
       replace H := Option.bind_eq_some_iff.mp H
       obtain ⟨t192, A520, H⟩ := H
       replace H : (if t192 = true then (some true) else ((collide_has.f ((rd_T62 l0 x13_1).f4.f0) ((rd_T62 l0 x13_1).f4.f1) (wrap64 (a3 + 1))).bind fun t193 => (if t193 = true then (some true) else (collide_contact.l0 k1 a1 a2 a3 l0 (l0.length : Int) (wrap64 (x13_1 + 1)))))) = some r := H
       have A52 := am A520
       clear A520
       by_cases c53 : t192 = true
       ·
        subst c53
        have H1 : (some true) = some r := by rw [if_pos rfl] at H; exact H
        clear H
        have H := H1
        clear H1
        obtain rfl := Option.some.inj H
        have p186 : 0 ≤ (x13_1 : Int) := az
        have q186 : x13_1 < (l0.length : Int) := az
        obtain ⟨ad186, e186, hx186_0, hx186_1, hx186_2, hx186_3, hx186_4, hx186_5⟩ := at_T62 HR0.out x13_1 p186 q186
        cases e186
        replace hx186_0 := cb HB.out hx186_0
        replace hx186_1 := cb HB.out hx186_1
        replace hx186_2 := cb HB.out hx186_2
        replace hx186_3 := cb HB.out hx186_3
        replace hx186_4 := cb HB.out hx186_4
        replace hx186_5 := cb HB.out hx186_5
        replace p186 := eq_true p186
        replace q186 := eq_true q186
        go_wp2_with (first | ((with_reducible refine gate_dst (N := 10) rfl ?_); refine box_event yz (N := 10) yz (cs := #[.int .i64 0, .int .i64 0, .int .i64 0, .int .i64 0, .int .i64 0, .int .i64 0]) (t := 62) gz ?_; intro gb187 hg w54 hbox hb; have BK187 := am (hbox); have GW187 := gwz (g := gb187) HB hg; have GE187 := GW187; replace HB := am (below_step bz hb); clear hb hbox hg; obtain ⟨hcz55_0, hcz55_1, hcz55_2, hcz55_3, hcz55_4, hcz55_5, hfz55_0, hfz55_1, hfz55_2, hfz55_3, hfz55_4, hfz55_5⟩ := kc6 BK187.out) | (go_at_call 68; (with_reducible refine (collide_has.calls ((rd_T62 l0 x13_1).f4.f0) ((rd_T62 l0 x13_1).f4.f1) a3 true _ A52.out).mono ?_); rintro e w56 ⟨rfl, hb⟩; replace BK187 := am (blk_below (o := .cells #[.int .i64 ((rd_T62 l0 x13_1).f0), .int .i64 ((rd_T62 l0 x13_1).f1), .int .i64 ((rd_T62 l0 x13_1).f2), .int .i64 ((rd_T62 l0 x13_1).f3), .int .i64 ((rd_T62 l0 x13_1).f4.f0), .int .i64 ((rd_T62 l0 x13_1).f4.f1)] 62 (0, 0)) (by (with_reducible repeat first | apply kN | apply kD | apply kA); refine blk_put (cs := #[.int .i64 ((rd_T62 l0 x13_1).f0), .int .i64 ((rd_T62 l0 x13_1).f1), .int .i64 ((rd_T62 l0 x13_1).f2), .int .i64 ((rd_T62 l0 x13_1).f3), .int .i64 ((rd_T62 l0 x13_1).f4.f0), .int .i64 0]) ?_ 5 _ rfl; (with_reducible repeat first | apply kN | apply kD | apply kA); refine blk_put (cs := #[.int .i64 ((rd_T62 l0 x13_1).f0), .int .i64 ((rd_T62 l0 x13_1).f1), .int .i64 ((rd_T62 l0 x13_1).f2), .int .i64 ((rd_T62 l0 x13_1).f3), .int .i64 0, .int .i64 0]) ?_ 4 _ rfl; (with_reducible repeat first | apply kN | apply kD | apply kA); refine blk_put (cs := #[.int .i64 ((rd_T62 l0 x13_1).f0), .int .i64 ((rd_T62 l0 x13_1).f1), .int .i64 ((rd_T62 l0 x13_1).f2), .int .i64 0, .int .i64 0, .int .i64 0]) ?_ 3 _ rfl; (with_reducible repeat first | apply kN | apply kD | apply kA); refine blk_put (cs := #[.int .i64 ((rd_T62 l0 x13_1).f0), .int .i64 ((rd_T62 l0 x13_1).f1), .int .i64 0, .int .i64 0, .int .i64 0, .int .i64 0]) ?_ 2 _ rfl; (with_reducible repeat first | apply kN | apply kD | apply kA); refine blk_put (cs := #[.int .i64 ((rd_T62 l0 x13_1).f0), .int .i64 0, .int .i64 0, .int .i64 0, .int .i64 0, .int .i64 0]) ?_ 1 _ rfl; (with_reducible repeat first | apply kN | apply kD | apply kA); refine blk_put (cs := #[.int .i64 0, .int .i64 0, .int .i64 0, .int .i64 0, .int .i64 0, .int .i64 0]) ?_ 0 _ rfl; (with_reducible repeat first | apply kN | apply kD | apply kA); exact BK187.out) hb); replace HB := am (below_step bz hb); (try clear hb); (try clear hb2); (try clear hk); (try clear hi)))
        go_ret
        exact ⟨ez, bz⟩
       ·
        replace c53 := Bool.eq_false_iff.mpr c53
        subst c53
        have H1 : ((collide_has.f ((rd_T62 l0 x13_1).f4.f0) ((rd_T62 l0 x13_1).f4.f1) (wrap64 (a3 + 1))).bind fun t193 => (if t193 = true then (some true) else (collide_contact.l0 k1 a1 a2 a3 l0 (l0.length : Int) (wrap64 (x13_1 + 1))))) = some r := by rw [if_neg (show ¬ (false = true) by decide)] at H; exact H
        clear H
        have H := H1
        clear H1
        replace H := Option.bind_eq_some_iff.mp H
        obtain ⟨t193, A570, H⟩ := H
        replace H : (if t193 = true then (some true) else (collide_contact.l0 k1 a1 a2 a3 l0 (l0.length : Int) (wrap64 (x13_1 + 1)))) = some r := H
        have A57 := am A570
        clear A570
        by_cases c58 : t193 = true
        ·
         subst c58
         have H1 : (some true) = some r := by rw [if_pos rfl] at H; exact H
         clear H
         have H := H1
         clear H1
         obtain rfl := Option.some.inj H
         have p186 : 0 ≤ (x13_1 : Int) := az
         have q186 : x13_1 < (l0.length : Int) := az
         obtain ⟨ad186, e186, hx186_0, hx186_1, hx186_2, hx186_3, hx186_4, hx186_5⟩ := at_T62 HR0.out x13_1 p186 q186
         cases e186
         replace hx186_0 := cb HB.out hx186_0
         replace hx186_1 := cb HB.out hx186_1
         replace hx186_2 := cb HB.out hx186_2
         replace hx186_3 := cb HB.out hx186_3
         replace hx186_4 := cb HB.out hx186_4
         replace hx186_5 := cb HB.out hx186_5
         replace p186 := eq_true p186
         replace q186 := eq_true q186
         go_wp2_with (first | ((with_reducible refine gate_dst (N := 10) rfl ?_); refine box_event yz (N := 10) yz (cs := #[.int .i64 0, .int .i64 0, .int .i64 0, .int .i64 0, .int .i64 0, .int .i64 0]) (t := 62) gz ?_; intro gb187 hg w59 hbox hb; have BK187 := am (hbox); have GW187 := gwz (g := gb187) HB hg; have GE187 := GW187; replace HB := am (below_step bz hb); clear hb hbox hg; obtain ⟨hcz60_0, hcz60_1, hcz60_2, hcz60_3, hcz60_4, hcz60_5, hfz60_0, hfz60_1, hfz60_2, hfz60_3, hfz60_4, hfz60_5⟩ := kc6 BK187.out) | (go_at_call 68; (with_reducible refine (collide_has.calls ((rd_T62 l0 x13_1).f4.f0) ((rd_T62 l0 x13_1).f4.f1) a3 false _ A52.out).mono ?_); rintro e w61 ⟨rfl, hb⟩; replace BK187 := am (blk_below (o := .cells #[.int .i64 ((rd_T62 l0 x13_1).f0), .int .i64 ((rd_T62 l0 x13_1).f1), .int .i64 ((rd_T62 l0 x13_1).f2), .int .i64 ((rd_T62 l0 x13_1).f3), .int .i64 ((rd_T62 l0 x13_1).f4.f0), .int .i64 ((rd_T62 l0 x13_1).f4.f1)] 62 (0, 0)) (by (with_reducible repeat first | apply kN | apply kD | apply kA); refine blk_put (cs := #[.int .i64 ((rd_T62 l0 x13_1).f0), .int .i64 ((rd_T62 l0 x13_1).f1), .int .i64 ((rd_T62 l0 x13_1).f2), .int .i64 ((rd_T62 l0 x13_1).f3), .int .i64 ((rd_T62 l0 x13_1).f4.f0), .int .i64 0]) ?_ 5 _ rfl; (with_reducible repeat first | apply kN | apply kD | apply kA); refine blk_put (cs := #[.int .i64 ((rd_T62 l0 x13_1).f0), .int .i64 ((rd_T62 l0 x13_1).f1), .int .i64 ((rd_T62 l0 x13_1).f2), .int .i64 ((rd_T62 l0 x13_1).f3), .int .i64 0, .int .i64 0]) ?_ 4 _ rfl; (with_reducible repeat first | apply kN | apply kD | apply kA); refine blk_put (cs := #[.int .i64 ((rd_T62 l0 x13_1).f0), .int .i64 ((rd_T62 l0 x13_1).f1), .int .i64 ((rd_T62 l0 x13_1).f2), .int .i64 0, .int .i64 0, .int .i64 0]) ?_ 3 _ rfl; (with_reducible repeat first | apply kN | apply kD | apply kA); refine blk_put (cs := #[.int .i64 ((rd_T62 l0 x13_1).f0), .int .i64 ((rd_T62 l0 x13_1).f1), .int .i64 0, .int .i64 0, .int .i64 0, .int .i64 0]) ?_ 2 _ rfl; (with_reducible repeat first | apply kN | apply kD | apply kA); refine blk_put (cs := #[.int .i64 ((rd_T62 l0 x13_1).f0), .int .i64 0, .int .i64 0, .int .i64 0, .int .i64 0, .int .i64 0]) ?_ 1 _ rfl; (with_reducible repeat first | apply kN | apply kD | apply kA); refine blk_put (cs := #[.int .i64 0, .int .i64 0, .int .i64 0, .int .i64 0, .int .i64 0, .int .i64 0]) ?_ 0 _ rfl; (with_reducible repeat first | apply kN | apply kD | apply kA); exact BK187.out) hb); replace HB := am (below_step bz hb); (try clear hb); (try clear hb2); (try clear hk); (try clear hi); obtain ⟨hcz62_0, hcz62_1, hcz62_2, hcz62_3, hcz62_4, hcz62_5, hfz62_0, hfz62_1, hfz62_2, hfz62_3, hfz62_4, hfz62_5⟩ := kc6 BK187.out) | (go_at_call 68; (with_reducible refine (collide_has.calls ((rd_T62 l0 x13_1).f4.f0) ((rd_T62 l0 x13_1).f4.f1) (wrap64 (a3 + 1)) true _ A57.out).mono ?_); rintro e w63 ⟨rfl, hb⟩; replace BK187 := am (blk_below (o := .cells #[.int .i64 ((rd_T62 l0 x13_1).f0), .int .i64 ((rd_T62 l0 x13_1).f1), .int .i64 ((rd_T62 l0 x13_1).f2), .int .i64 ((rd_T62 l0 x13_1).f3), .int .i64 ((rd_T62 l0 x13_1).f4.f0), .int .i64 ((rd_T62 l0 x13_1).f4.f1)] 62 (0, 0)) (kz BK187) hb); replace HB := am (below_step bz hb); (try clear hb); (try clear hb2); (try clear hk); (try clear hi)))
         go_ret
         exact ⟨ez, bz⟩
        ·
         replace c58 := Bool.eq_false_iff.mpr c58
         subst c58
         have H1 : (collide_contact.l0 k1 a1 a2 a3 l0 (l0.length : Int) (wrap64 (x13_1 + 1))) = some r := by rw [if_neg (show ¬ (false = true) by decide)] at H; exact H
         clear H
         have H := H1
         clear H1
         have H' := am H
         clear H
         have p186 : 0 ≤ (x13_1 : Int) := az
         have q186 : x13_1 < (l0.length : Int) := az
         obtain ⟨ad186, e186, hx186_0, hx186_1, hx186_2, hx186_3, hx186_4, hx186_5⟩ := at_T62 HR0.out x13_1 p186 q186
         cases e186
         replace hx186_0 := cb HB.out hx186_0
         replace hx186_1 := cb HB.out hx186_1
         replace hx186_2 := cb HB.out hx186_2
         replace hx186_3 := cb HB.out hx186_3
         replace hx186_4 := cb HB.out hx186_4
         replace hx186_5 := cb HB.out hx186_5
         replace p186 := eq_true p186
         replace q186 := eq_true q186
         go_wp2_with (first | ((with_reducible refine gate_dst (N := 10) rfl ?_); refine box_event yz (N := 10) yz (cs := #[.int .i64 0, .int .i64 0, .int .i64 0, .int .i64 0, .int .i64 0, .int .i64 0]) (t := 62) gz ?_; intro gb187 hg w64 hbox hb; have BK187 := am (hbox); have GW187 := gwz (g := gb187) HB hg; have GE187 := GW187; replace HB := am (below_step bz hb); clear hb hbox hg; obtain ⟨hcz65_0, hcz65_1, hcz65_2, hcz65_3, hcz65_4, hcz65_5, hfz65_0, hfz65_1, hfz65_2, hfz65_3, hfz65_4, hfz65_5⟩ := kc6 BK187.out) | (go_at_call 68; (with_reducible refine (collide_has.calls ((rd_T62 l0 x13_1).f4.f0) ((rd_T62 l0 x13_1).f4.f1) a3 false _ A52.out).mono ?_); rintro e w66 ⟨rfl, hb⟩; replace BK187 := am (blk_below (o := .cells #[.int .i64 ((rd_T62 l0 x13_1).f0), .int .i64 ((rd_T62 l0 x13_1).f1), .int .i64 ((rd_T62 l0 x13_1).f2), .int .i64 ((rd_T62 l0 x13_1).f3), .int .i64 ((rd_T62 l0 x13_1).f4.f0), .int .i64 ((rd_T62 l0 x13_1).f4.f1)] 62 (0, 0)) (by (with_reducible repeat first | apply kN | apply kD | apply kA); refine blk_put (cs := #[.int .i64 ((rd_T62 l0 x13_1).f0), .int .i64 ((rd_T62 l0 x13_1).f1), .int .i64 ((rd_T62 l0 x13_1).f2), .int .i64 ((rd_T62 l0 x13_1).f3), .int .i64 ((rd_T62 l0 x13_1).f4.f0), .int .i64 0]) ?_ 5 _ rfl; (with_reducible repeat first | apply kN | apply kD | apply kA); refine blk_put (cs := #[.int .i64 ((rd_T62 l0 x13_1).f0), .int .i64 ((rd_T62 l0 x13_1).f1), .int .i64 ((rd_T62 l0 x13_1).f2), .int .i64 ((rd_T62 l0 x13_1).f3), .int .i64 0, .int .i64 0]) ?_ 4 _ rfl; (with_reducible repeat first | apply kN | apply kD | apply kA); refine blk_put (cs := #[.int .i64 ((rd_T62 l0 x13_1).f0), .int .i64 ((rd_T62 l0 x13_1).f1), .int .i64 ((rd_T62 l0 x13_1).f2), .int .i64 0, .int .i64 0, .int .i64 0]) ?_ 3 _ rfl; (with_reducible repeat first | apply kN | apply kD | apply kA); refine blk_put (cs := #[.int .i64 ((rd_T62 l0 x13_1).f0), .int .i64 ((rd_T62 l0 x13_1).f1), .int .i64 0, .int .i64 0, .int .i64 0, .int .i64 0]) ?_ 2 _ rfl; (with_reducible repeat first | apply kN | apply kD | apply kA); refine blk_put (cs := #[.int .i64 ((rd_T62 l0 x13_1).f0), .int .i64 0, .int .i64 0, .int .i64 0, .int .i64 0, .int .i64 0]) ?_ 1 _ rfl; (with_reducible repeat first | apply kN | apply kD | apply kA); refine blk_put (cs := #[.int .i64 0, .int .i64 0, .int .i64 0, .int .i64 0, .int .i64 0, .int .i64 0]) ?_ 0 _ rfl; (with_reducible repeat first | apply kN | apply kD | apply kA); exact BK187.out) hb); replace HB := am (below_step bz hb); (try clear hb); (try clear hb2); (try clear hk); (try clear hi); obtain ⟨hcz67_0, hcz67_1, hcz67_2, hcz67_3, hcz67_4, hcz67_5, hfz67_0, hfz67_1, hfz67_2, hfz67_3, hfz67_4, hfz67_5⟩ := kc6 BK187.out) | (go_at_call 68; (with_reducible refine (collide_has.calls ((rd_T62 l0 x13_1).f4.f0) ((rd_T62 l0 x13_1).f4.f1) (wrap64 (a3 + 1)) false _ A57.out).mono ?_); rintro e w68 ⟨rfl, hb⟩; replace BK187 := am (blk_below (o := .cells #[.int .i64 ((rd_T62 l0 x13_1).f0), .int .i64 ((rd_T62 l0 x13_1).f1), .int .i64 ((rd_T62 l0 x13_1).f2), .int .i64 ((rd_T62 l0 x13_1).f3), .int .i64 ((rd_T62 l0 x13_1).f4.f0), .int .i64 ((rd_T62 l0 x13_1).f4.f1)] 62 (0, 0)) (kz BK187) hb); replace HB := am (below_step bz hb); (try clear hb); (try clear hb2); (try clear hk); (try clear hi)))
         go_roundg k1
         case measure => have := HK1.out; omega
         case rel => exact ⟨(wrap64 (x13_1 + 1)), sz, H', ⟨by have := HK1.out; omega⟩, ⟨bz⟩⟩
      ·
       rw [if_neg c51] at H
       have c51b0 : (((rd_T62 l0 x13_1).f2) == a1) = false := beq_eq_false_iff_ne.mpr c51
       have c51b1 : (((rd_T62 l0 x13_1).f2) != a1) = true := bne_iff_ne.mpr c51
       have H' := am H
       clear H
       have p186 : 0 ≤ (x13_1 : Int) := az
       have q186 : x13_1 < (l0.length : Int) := az
       obtain ⟨ad186, e186, hx186_0, hx186_1, hx186_2, hx186_3, hx186_4, hx186_5⟩ := at_T62 HR0.out x13_1 p186 q186
       cases e186
       replace hx186_0 := cb HB.out hx186_0
       replace hx186_1 := cb HB.out hx186_1
       replace hx186_2 := cb HB.out hx186_2
       replace hx186_3 := cb HB.out hx186_3
       replace hx186_4 := cb HB.out hx186_4
       replace hx186_5 := cb HB.out hx186_5
       replace p186 := eq_true p186
       replace q186 := eq_true q186
       go_wp2_with (first | ((with_reducible refine gate_dst (N := 10) rfl ?_); refine box_event yz (N := 10) yz (cs := #[.int .i64 0, .int .i64 0, .int .i64 0, .int .i64 0, .int .i64 0, .int .i64 0]) (t := 62) gz ?_; intro gb187 hg w69 hbox hb; have BK187 := am (hbox); have GW187 := gwz (g := gb187) HB hg; have GE187 := GW187; replace HB := am (below_step bz hb); clear hb hbox hg; obtain ⟨hcz70_0, hcz70_1, hcz70_2, hcz70_3, hcz70_4, hcz70_5, hfz70_0, hfz70_1, hfz70_2, hfz70_3, hfz70_4, hfz70_5⟩ := kc6 BK187.out))
       go_roundg k1
       case measure => have := HK1.out; omega
       case rel => exact ⟨(wrap64 (x13_1 + 1)), sz, H', ⟨by have := HK1.out; omega⟩, ⟨bz⟩⟩
     ·
      rw [if_neg c50] at H
      have c50b0 : (((rd_T62 l0 x13_1).f0) == a2) = false := beq_eq_false_iff_ne.mpr c50
      have c50b1 : (((rd_T62 l0 x13_1).f0) != a2) = true := bne_iff_ne.mpr c50
      have H' := am H
      clear H
      have p186 : 0 ≤ (x13_1 : Int) := az
      have q186 : x13_1 < (l0.length : Int) := az
      obtain ⟨ad186, e186, hx186_0, hx186_1, hx186_2, hx186_3, hx186_4, hx186_5⟩ := at_T62 HR0.out x13_1 p186 q186
      cases e186
      replace hx186_0 := cb HB.out hx186_0
      replace hx186_1 := cb HB.out hx186_1
      replace hx186_2 := cb HB.out hx186_2
      replace hx186_3 := cb HB.out hx186_3
      replace hx186_4 := cb HB.out hx186_4
      replace hx186_5 := cb HB.out hx186_5
      replace p186 := eq_true p186
      replace q186 := eq_true q186
      go_wp2_with (first | ((with_reducible refine gate_dst (N := 10) rfl ?_); refine box_event yz (N := 10) yz (cs := #[.int .i64 0, .int .i64 0, .int .i64 0, .int .i64 0, .int .i64 0, .int .i64 0]) (t := 62) gz ?_; intro gb187 hg w71 hbox hb; have BK187 := am (hbox); have GW187 := gwz (g := gb187) HB hg; have GE187 := GW187; replace HB := am (below_step bz hb); clear hb hbox hg; obtain ⟨hcz72_0, hcz72_1, hcz72_2, hcz72_3, hcz72_4, hcz72_5, hfz72_0, hfz72_1, hfz72_2, hfz72_3, hfz72_4, hfz72_5⟩ := kc6 BK187.out))
      go_roundg k1
      case measure => have := HK1.out; omega
      case rel => exact ⟨(wrap64 (x13_1 + 1)), sz, H', ⟨by have := HK1.out; omega⟩, ⟨bz⟩⟩
   ·
    rw [if_neg c5] at H
    have c5b0 := decide_eq_false c5
    clear c5
    obtain rfl := Option.some.inj H
    go_wp2
    go_ret
    exact ⟨ez, bz⟩

end Go.Proofs.Yteflngoiebgdaaa.X
