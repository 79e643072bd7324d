import Derived.Test.YthgngebcfggcfaaX0
import Derived.Test.YthgngebcfggcfaaX17
import Derived.Test.YthgngebcfggcfaaX18
import Derived.Test.YthgngebcfggcfaaX22
import Derived.Test.YthgngebcfggcfaaX33
namespace Go.Proofs.Ythgngebcfggcfaa.X
open Go.RowKit Go.Proofs.YthgngebcfggcfaaW.PrintWords Go.Proofs.YthgngebcfggcfaaW.PrintLast Go.Proofs.YthgngebcfggcfaaW.PrintMore
attribute [local go_sem] max2_int min2_int max_two min_two max_three min_three max_four min_four
set_option linter.unusedVariables false
set_option linter.unusedSimpArgs false
/-- Where all is as the law says. -/
def dancestudiolaw14_TempoRamp.f (k : Nat) (a0 x0 x1 x2 x3 : Int) : Option Bool := (tempo_Ramp.f k a0 x0 x1 x2 x3).bind fun b1 => ((dancestudioref14_Ramp.f k a0 x0 x1 x2 x3).bind fun b2 => (if b1.2 = b2.2 then ((dancestudioref14_Same.f k b1.1 b2.1).bind fun s => (if s = true then ((dancestudiolaw14_awake.f k).bind fun t => (some t)) else (none))) else (none)))
set_option maxHeartbeats 8000000 in
set_option maxRecDepth 100000 in
theorem dancestudiolaw14_TempoRamp.calls (k : Nat) (a0 : Int) (x0 : Int) (x1 : Int) (x2 : Int) (x3 : Int) (r : Bool) (w : World) (h : dancestudiolaw14_TempoRamp.f k a0 x0 x1 x2 x3 = some r) :
  Calls Try.prog 6 #[.int .i64 a0, .agg #[.int .i64 x0, .int .i64 x1, .int .i64 x2, .int .i64 x3]] w fun e w' => e = .returned (.bool r) ∧ Below w.heap.size w w' := by
  have hu32 := Try.underlying32
  have HB := Aside0.mk (Below.refl w.heap.size w)
  unfold dancestudiolaw14_TempoRamp.f at h
  cases h1 : tempo_Ramp.f k a0 x0 x1 x2 x3 with
  | none => rw [h1] at h; exact absurd h (by simp)
  | some b1 =>
    rw [h1, Option.bind_some] at h
    cases h2 : dancestudioref14_Ramp.f k a0 x0 x1 x2 x3 with
    | none => rw [h2] at h; exact absurd h (by simp)
    | some b2 =>
      rw [h2, Option.bind_some] at h
      obtain ⟨p1, q1⟩ := b1
      obtain ⟨p2, q2⟩ := b2
      simp only at h
      by_cases he : q1 = q2
      · subst he
        rw [if_pos rfl] at h
        cases h3 : dancestudioref14_Same.f k p1 p2 with
        | none => rw [h3] at h; exact absurd h (by simp)
        | some s =>
          rw [h3, Option.bind_some] at h
          cases s with
          | false => rw [if_neg (by simp)] at h; exact absurd h (by simp)
          | true =>
            rw [if_pos rfl] at h
            cases h4 : dancestudiolaw14_awake.f k with
            | none => rw [h4] at h; exact absurd h (by simp)
            | some t =>
              rw [h4, Option.bind_some] at h
              obtain rfl := Option.some.inj h
              clear h
              have H1 := Aside0.mk h1
              have H2 := Aside0.mk h2
              have H3 := Aside0.mk h3
              have H4 := Aside0.mk h4
              clear h1 h2 h3 h4
              go_enter Try.func6, Try.ntmps6
              go_wp2_with (first
                | ((with_reducible refine gate_dst (N := 3) rfl ?_); refine box_event ?hg (N := 3) ?hd (cs := #[.int .i64 x0, .int .i64 x1, .int .i64 x2, .int .i64 x3]) (t := 32) ?hr ?_; (case hd => rfl); (case hg => rfl); (case hr => first | (go_simp; done) | (go_simp; rfl)); intro gb hgb w1 hbox hb; have HB1 := Aside0.mk (below_step HB.out hb); have hz0 : w1.cell? ⟨gb, 0, none⟩ = some (.int .i64 x0) := (blk_cell hbox 0).trans rfl; have hz1 : w1.cell? ⟨gb, 1, none⟩ = some (.int .i64 x1) := (blk_cell hbox 1).trans rfl; have hz2 : w1.cell? ⟨gb, 2, none⟩ = some (.int .i64 x2) := (blk_cell hbox 2).trans rfl; have hz3 : w1.cell? ⟨gb, 3, none⟩ = some (.int .i64 x3) := (blk_cell hbox 3).trans rfl; clear hb hbox hgb)
                | (go_at_call 20; (with_reducible refine (tempo_Ramp.calls k a0 x0 x1 x2 x3 p1 q1 _ H1.out).mono ?_); rintro e w2 ⟨v1, rfl, ho1, hb⟩; have HO1 := Aside0.mk (Kd.R_lower ho1 (below_size HB1.out)); have HB2 := Aside0.mk (below_step HB1.out hb); replace hz0 := (hb.cell (World.block_lt_of_cell? _ _ hz0)).trans hz0; replace hz1 := (hb.cell (World.block_lt_of_cell? _ _ hz1)).trans hz1; replace hz2 := (hb.cell (World.block_lt_of_cell? _ _ hz2)).trans hz2; replace hz3 := (hb.cell (World.block_lt_of_cell? _ _ hz3)).trans hz3; clear hb ho1)
                | (go_at_call 21; (with_reducible refine (dancestudioref14_Ramp.calls k a0 x0 x1 x2 x3 p2 q1 _ H2.out).mono ?_); rintro e w3 ⟨v2, rfl, ho2, hb⟩; obtain ⟨A1, c1, e1, hl1, hC1⟩ := Kd.R_reads (Kd.R_below HO1.out hb); obtain ⟨A2, c2, e2, hl2, hC2⟩ := Kd.R_reads ho2; subst e1; subst e2; have HC1 := Aside0.mk hC1; have HC2 := Aside0.mk hC2; have HL1 := Aside0.mk hl1; have HL2 := Aside0.mk hl2; have HB3 := Aside0.mk (below_step HB2.out hb); clear hb ho2 hC1 hC2 hl1 hl2 hz0 hz1 hz2 hz3)
                | (go_at_call 22; (with_reducible refine (dancestudioref14_Same.calls k A1 c1 p1 A2 c2 p2 true _ HC1.out HL1.out HC2.out HL2.out H3.out).mono ?_); rintro e w4 ⟨rfl, hd⟩; have HB4 := Aside0.mk (below_step HB3.out hd.below); clear hd)
                | (go_at_call 13; (with_reducible refine (dancestudiolaw14_awake.calls k t _ H4.out).mono ?_); rintro e w5 ⟨rfl, hb⟩; have HB5 := Aside0.mk (below_step HB4.out hb); clear hb))
              go_ret
              exact ⟨by first | rfl | simp, HB5.out⟩
      · rw [if_neg he] at h
        exact absurd h (by simp)

end Go.Proofs.Ythgngebcfggcfaa.X
