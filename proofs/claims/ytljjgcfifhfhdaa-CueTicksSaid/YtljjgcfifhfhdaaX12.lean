-- written by xprint.py, an own overlay over the kit's print; not trusted: Lean checks it
import Derived.Test.YtljjgcfifhfhdaaX0
import Derived.Test.YtljjgcfifhfhdaaX3
import Derived.Test.YtljjgcfifhfhdaaX11
import Derived.Test.YtljjgcfifhfhdaaX26
namespace Go.Proofs.Ytljjgcfifhfhdaa.X
open Go.RowKit Go.Proofs.YtljjgcfifhfhdaaW.PrintWords Go.Proofs.YtljjgcfifhfhdaaW.PrintLast Go.Proofs.YtljjgcfifhfhdaaW.PrintMore
attribute [local go_sem] max2_int min2_int max_two min_two max_three min_three max_four min_four   -- for this text's walks alone
set_option linter.unusedVariables false
set_option linter.unusedSimpArgs false

/-! ### cue_Drift: function 16 -/
def cue_Drift.late (k : Nat) (l1 : List S45) (l0 : List S40) (c : S40) : Option Int := (tempo_When.f k l1 c.f0).bind fun t => (some (wrap64 (t.1 - wrap64 (c.f1 - (l0.getD 0 z40).f1))))
def cue_Drift.go (k : Nat) (l1 : List S45) (l0 : List S40) : List S40 → List Int → Option (List Int)
  | [], acc => some acc
  | c :: r, acc => (cue_Drift.late k l1 l0 c).bind fun n => cue_Drift.go k l1 l0 r (acc ++ [n])
def cue_Drift.f (k : Nat) (l0 : List S40) (l1 : List S45) : Option (List Int × Int) :=
  if cue_Check.chk l0 = 0 then ((tempo_Check.f k l1).bind fun e => (if e = 0 then ((cue_Drift.go k l1 l0 l0 []).bind fun r => (some (r, 0))) else (some ([], e)))) else (some ([], cue_Check.chk l0))
theorem cue_Drift.mono_late (k : Nat) (l1 : List S45) (l0 : List S40) (c : S40) : LeO (cue_Drift.late k l1 l0 c) (cue_Drift.late (k + 1) l1 l0 c) := by
  unfold cue_Drift.late
  exact LeO.bind (tempo_When.mono _ _ _) (fun _ => LeO.refl _)
theorem cue_Drift.mono_go (k : Nat) (l1 : List S45) (l0 : List S40) : ∀ (l : List S40) (acc : List Int), LeO (cue_Drift.go k l1 l0 l acc) (cue_Drift.go (k + 1) l1 l0 l acc)
  | [], _ => LeO.refl _
  | c :: r, acc => by
    unfold cue_Drift.go
    exact LeO.bind (cue_Drift.mono_late k l1 l0 c) (fun n => cue_Drift.mono_go k l1 l0 r _)
theorem cue_Drift.mono : ∀ a0 a1 k, LeO (cue_Drift.f k a0 a1) (cue_Drift.f (k + 1) a0 a1) := by
  intro a0 a1 k
  unfold cue_Drift.f
  repeat' first
    | (with_reducible exact cue_Drift.mono_go _ _ _ _ _)
    | (with_reducible exact tempo_Check.mono _ _)
    | (with_reducible exact LeO.refl _)
    | (with_reducible refine LeO.ite ?_ ?_)
    | (with_reducible refine LeO.bind ?_ (fun _ => ?_))
set_option maxHeartbeats 8000000 in
set_option maxRecDepth 100000 in
/-- The closure: how late a cue is. -/
theorem cue_Drift.clo (k : Nat) (ad : Addr) (c0 : Nat) (l0 : List S40) (A1 : Option Addr) (c1 : Nat) (l1 : List S45) (c : S40) (r : Int) (Bl Bt : Nat) (w : World) (hBl : w.cell? ⟨Bl, 0, none⟩ = some (.slice (some ad) l0.length c0)) (hBt : w.cell? ⟨Bt, 0, none⟩ = some (.slice A1 l1.length c1))
    (hr0 : Kd.C k40 w (some ad) l0.length l0) (h0 : 0 < l0.length) (hr1 : Kd.C k45 w A1 l1.length l1) (hc1 : l1.length ≤ c1) (h : cue_Drift.late k l1 l0 c = some r) :
    Calls Try.prog 25 #[.agg #[.int .i64 c.f0, .int .i64 c.f1], .pointer (some ⟨Bt, 0, none⟩), .pointer (some ⟨Bl, 0, none⟩)] w fun e w' => e = .returned (.int .i64 r) ∧ Below w.heap.size w w' := by
  have hlate : ∃ t, tempo_When.f k l1 c.f0 = some t ∧ r = wrap64 (t.1 - wrap64 (c.f1 - (l0.getD 0 z40).f1)) := by
    unfold cue_Drift.late at h
    cases hw : tempo_When.f k l1 c.f0 with
    | none => rw [hw] at h; cases h
    | some t => rw [hw, Option.bind_some] at h; exact ⟨t, rfl, (Option.some.inj h).symm⟩
  obtain ⟨⟨t1, t2⟩, ht, rfl⟩ := hlate
  have H := Aside0.mk ht
  have HR0 := Aside0.mk hr0
  have HR1 := Aside0.mk hr1
  have HBL := Aside0.mk hBl
  obtain ⟨a0, a1⟩ := cue_Check.cells hr0 0 h0
  rw [Nat.zero_mul, show ad.add 0 = ad by first | rfl | (cases ad; rfl) | (cases ad; simp [Addr.add])] at a0 a1
  have HA1 := Aside0.mk a1
  have HB := Aside0.mk (Below.refl w.heap.size w)
  have hu40 := Try.underlying40
  clear h ht hr0 hr1 a0 a1
  obtain ⟨x, hx⟩ : ∃ x, l0.getD 0 z40 = x := ⟨_, rfl⟩
  rw [hx] at HA1 ⊢
  clear hx
  go_enter Try.func25, Try.ntmps25
  go_wp2_with (first
    | ((with_reducible refine gate_dst (N := 3) rfl ?_); refine box_event ?hg (N := 3) ?hd (cs := #[.int .i64 c.f0, .int .i64 c.f1]) (t := 40) ?hr ?_; (case hd => rfl); (case hg => rfl); (case hr => first | (go_simp; done) | (go_simp; rfl)); intro g3 hg3 w1 hbox hb; have HB1 := Aside0.mk (below_step HB.out hb); have HX3 := Aside0.mk hbox; have cT := (HB1.out.cell (World.block_lt_of_cell? w _ hBt)).trans hBt; have cC0 : w1.cell? ⟨g3, 0, none⟩ = some (.int .i64 c.f0) := (blk_cell HX3.out 0).trans rfl; clear hb hbox hg3)
    | (go_at_call 21; (with_reducible refine (tempo_When.calls k A1 c1 l1 c.f0 t1 t2 _ (Kd.C_below HR1.out HB1.out) hc1 H.out).mono ?_); rintro e w2 ⟨rfl, hb⟩; have HB2 := Aside0.mk (below_step HB1.out hb); have cL := (HB2.out.cell (World.block_lt_of_cell? w _ HBL.out)).trans HBL.out; have cC1 : w2.cell? ⟨g3, 1, none⟩ = some (.int .i64 c.f1) := (blk_cell ((hb.block g3 (Array.getElem?_eq_some_iff.1 HX3.out).1).trans HX3.out) 1).trans rfl; have cX := (HB2.out.cell (World.block_lt_of_cell? w _ HA1.out)).trans HA1.out; clear hb))
  go_quiet (fail)
  go_wp2
  go_ret
  exact ⟨rfl, pw_below_drewN HB2.out _⟩
set_option maxHeartbeats 8000000 in
set_option maxRecDepth 100000 in
theorem cue_Drift.walk_bad (A0 : Option Addr) (c0 : Nat) (l0 : List S40) (A1 : Option Addr) (c1 : Nat) (l1 : List S45) (w : World) (hr0 : Kd.C k40 w A0 l0.length l0) (hc0 : l0.length ≤ c0) (hr1 : Kd.C k45 w A1 l1.length l1) (hc1 : l1.length ≤ c1) (hne : cue_Check.chk l0 ≠ 0) :
    Calls Try.prog 16 #[.slice A0 l0.length c0, .slice A1 l1.length c1] w fun e w' => e = .returned (.tuple #[.slice none 0 0, .int .i64 (cue_Check.chk l0)]) ∧ Below w.heap.size w w' := by
  have HC0 := Aside0.mk hr0
  have HC1 := Aside0.mk hr1
  have HB := Aside0.mk (Below.refl w.heap.size w)
  have hmf : ∀ (fn : Fn) (first cap : Array Value) (w : World), (Instr.makeFunc fn first cap).run Try.prog w = .ok (.func fn first cap) w := fun _ _ _ _ => rfl
  have HF := Aside0.mk (show cue_Check.f l0 = some (cue_Check.chk l0) from rfl)
  clear hr0 hr1
  generalize cue_Check.chk l0 = z at HF hne ⊢
  have hz1 : (z == 0) = false := by simpa using hne
  have hz2 : (z != 0) = true := by simpa using hne
  go_enter Try.func16, Try.ntmps16
  go_wp2_with (first
    | ((with_reducible refine gate_dst (N := 2) rfl ?_); refine box_event ?hg (N := 2) ?hd (cs := #[.slice A0 l0.length c0]) (t := 22) ?hr ?_; (case hd => rfl); (case hg => rfl); (case hr => first | (go_simp; done) | (go_simp; rfl)); intro gl hgl w1 hbox hb; have HB1 := Aside0.mk (below_step HB.out hb); have HXL := Aside0.mk hbox; have HGL := Aside0.mk hgl; clear hb hbox hgl)
    | ((with_reducible refine gate_dst (N := 3) rfl ?_); refine box_event ?hg (N := 3) ?hd (cs := #[.slice A1 l1.length c1]) (t := 27) ?hr ?_; (case hd => rfl); (case hg => rfl); (case hr => first | (go_simp; done) | (go_simp; rfl)); intro gt hgt w2 hbox hb; have HB2 := Aside0.mk (below_step HB1.out hb); have HXT := Aside0.mk hbox; have HXLT := Aside0.mk ((hb.block gl (Array.getElem?_eq_some_iff.1 HXL.out).1).trans HXL.out); have HGT := Aside0.mk hgt; have bL : w2.cell? ⟨gl, 0, none⟩ = some (.slice A0 l0.length c0) := (blk_cell HXLT.out 0).trans rfl; clear hb hbox hgt)
    | (go_at_call 10; (with_reducible refine (cue_Check.calls A0 c0 l0 _ _ (Kd.C_below HC0.out HB2.out) hc0 HF.out).mono ?_); rintro e w3 ⟨rfl, hb⟩; have HB3 := Aside0.mk (below_step HB2.out hb); have HYL := Aside0.mk ((hb.block gl (Array.getElem?_eq_some_iff.1 HXLT.out).1).trans HXLT.out); have HYT := Aside0.mk ((hb.block gt (Array.getElem?_eq_some_iff.1 HXT.out).1).trans HXT.out); have bT : w3.cell? ⟨gt, 0, none⟩ = some (.slice A1 l1.length c1) := (blk_cell HYT.out 0).trans rfl; have HS3 := Aside0.mk hb.size; clear hb)
    | fail)
  go_ret2
  exact ⟨rfl, HB3.out⟩
set_option maxHeartbeats 8000000 in
set_option maxRecDepth 100000 in
theorem cue_Drift.walk_tbad (k : Nat) (A0 : Option Addr) (c0 : Nat) (l0 : List S40) (A1 : Option Addr) (c1 : Nat) (l1 : List S45) (z : Int) (w : World) (hr0 : Kd.C k40 w A0 l0.length l0) (hc0 : l0.length ≤ c0) (hr1 : Kd.C k45 w A1 l1.length l1) (hc1 : l1.length ≤ c1) (h0 : cue_Check.chk l0 = 0) (ht : tempo_Check.f k l1 = some z) (hne : z ≠ 0) :
    Calls Try.prog 16 #[.slice A0 l0.length c0, .slice A1 l1.length c1] w fun e w' => e = .returned (.tuple #[.slice none 0 0, .int .i64 z]) ∧ Below w.heap.size w w' := by
  have HC0 := Aside0.mk hr0
  have HC1 := Aside0.mk hr1
  have HB := Aside0.mk (Below.refl w.heap.size w)
  have hmf : ∀ (fn : Fn) (first cap : Array Value) (w : World), (Instr.makeFunc fn first cap).run Try.prog w = .ok (.func fn first cap) w := fun _ _ _ _ => rfl
  have HF := Aside0.mk (show cue_Check.f l0 = some 0 by unfold cue_Check.f; rw [h0])
  have HT := Aside0.mk ht
  clear hr0 hr1 ht h0
  have hz1 : (z == 0) = false := by simpa using hne
  have hz2 : (z != 0) = true := by simpa using hne
  go_enter Try.func16, Try.ntmps16
  go_wp2_with (first
    | ((with_reducible refine gate_dst (N := 2) rfl ?_); refine box_event ?hg (N := 2) ?hd (cs := #[.slice A0 l0.length c0]) (t := 22) ?hr ?_; (case hd => rfl); (case hg => rfl); (case hr => first | (go_simp; done) | (go_simp; rfl)); intro gl hgl w1 hbox hb; have HB1 := Aside0.mk (below_step HB.out hb); have HXL := Aside0.mk hbox; have HGL := Aside0.mk hgl; clear hb hbox hgl)
    | ((with_reducible refine gate_dst (N := 3) rfl ?_); refine box_event ?hg (N := 3) ?hd (cs := #[.slice A1 l1.length c1]) (t := 27) ?hr ?_; (case hd => rfl); (case hg => rfl); (case hr => first | (go_simp; done) | (go_simp; rfl)); intro gt hgt w2 hbox hb; have HB2 := Aside0.mk (below_step HB1.out hb); have HXT := Aside0.mk hbox; have HXLT := Aside0.mk ((hb.block gl (Array.getElem?_eq_some_iff.1 HXL.out).1).trans HXL.out); have HGT := Aside0.mk hgt; have bL : w2.cell? ⟨gl, 0, none⟩ = some (.slice A0 l0.length c0) := (blk_cell HXLT.out 0).trans rfl; clear hb hbox hgt)
    | (go_at_call 10; (with_reducible refine (cue_Check.calls A0 c0 l0 _ _ (Kd.C_below HC0.out HB2.out) hc0 HF.out).mono ?_); rintro e w3 ⟨rfl, hb⟩; have HB3 := Aside0.mk (below_step HB2.out hb); have HYL := Aside0.mk ((hb.block gl (Array.getElem?_eq_some_iff.1 HXLT.out).1).trans HXLT.out); have HYT := Aside0.mk ((hb.block gt (Array.getElem?_eq_some_iff.1 HXT.out).1).trans HXT.out); have bT : w3.cell? ⟨gt, 0, none⟩ = some (.slice A1 l1.length c1) := (blk_cell HYT.out 0).trans rfl; have HS3 := Aside0.mk hb.size; clear hb)
    | (go_at_call 24; (with_reducible refine (tempo_Check.calls k A1 c1 l1 _ _ (Kd.C_below HC1.out HB3.out) hc1 HT.out).mono ?_); rintro e w4 ⟨rfl, hb⟩; have HB4 := Aside0.mk (below_step HB3.out hb); clear hb))
  go_ret2
  exact ⟨rfl, HB4.out⟩
set_option maxHeartbeats 8000000 in
set_option maxRecDepth 100000 in
theorem cue_Drift.walk_ok (k : Nat) (A0 : Option Addr) (c0 : Nat) (l0 : List S40) (A1 : Option Addr) (c1 : Nat) (l1 : List S45) (r : List Int) (w : World) (hr0 : Kd.C k40 w A0 l0.length l0) (hc0 : l0.length ≤ c0) (hr1 : Kd.C k45 w A1 l1.length l1) (hc1 : l1.length ≤ c1) (h0 : cue_Check.chk l0 = 0) (ht : tempo_Check.f k l1 = some 0) (hl2 : 2 ≤ l0.length) (hl64 : l0.length ≤ 64) (hgo : cue_Drift.go k l1 l0 l0 [] = some r) :
    Calls Try.prog 16 #[.slice A0 l0.length c0, .slice A1 l1.length c1] w fun e w' => ∃ v0_ : Value, e = .returned (.tuple #[v0_, .int .i64 0]) ∧ Kd.R (Kd.int .i64) 3 w' w.heap.size (fun _ => True) v0_ r ∧ Below w.heap.size w w' := by
  have HC0 := Aside0.mk hr0
  have HC1 := Aside0.mk hr1
  have HB := Aside0.mk (Below.refl w.heap.size w)
  have hmf : ∀ (fn : Fn) (first cap : Array Value) (w : World), (Instr.makeFunc fn first cap).run Try.prog w = .ok (.func fn first cap) w := fun _ _ _ _ => rfl
  have HF := Aside0.mk (show cue_Check.f l0 = some 0 by unfold cue_Check.f; rw [h0])
  have HT := Aside0.mk ht
  have HGO := Aside0.mk hgo
  obtain ⟨ad, rfl, _⟩ := at_T40 hr0 0 (by omega) (by omega)
  clear hr0 hr1 ht h0 hgo
  go_enter Try.func16, Try.ntmps16
  go_wp2_with (first
    | ((with_reducible refine gate_dst (N := 2) rfl ?_); refine box_event ?hg (N := 2) ?hd (cs := #[.slice (some ad) l0.length c0]) (t := 22) ?hr ?_; (case hd => rfl); (case hg => rfl); (case hr => first | (go_simp; done) | (go_simp; rfl)); intro gl hgl w1 hbox hb; have HB1 := Aside0.mk (below_step HB.out hb); have HXL := Aside0.mk hbox; have HGL := Aside0.mk hgl; clear hb hbox hgl)
    | ((with_reducible refine gate_dst (N := 3) rfl ?_); refine box_event ?hg (N := 3) ?hd (cs := #[.slice A1 l1.length c1]) (t := 27) ?hr ?_; (case hd => rfl); (case hg => rfl); (case hr => first | (go_simp; done) | (go_simp; rfl)); intro gt hgt w2 hbox hb; have HB2 := Aside0.mk (below_step HB1.out hb); have HXT := Aside0.mk hbox; have HXLT := Aside0.mk ((hb.block gl (Array.getElem?_eq_some_iff.1 HXL.out).1).trans HXL.out); have HGT := Aside0.mk hgt; have bL : w2.cell? ⟨gl, 0, none⟩ = some (.slice (some ad) l0.length c0) := (blk_cell HXLT.out 0).trans rfl; clear hb hbox hgt)
    | (go_at_call 10; (with_reducible refine (cue_Check.calls (some ad) c0 l0 _ _ (Kd.C_below HC0.out HB2.out) hc0 HF.out).mono ?_); rintro e w3 ⟨rfl, hb⟩; have HB3 := Aside0.mk (below_step HB2.out hb); have HYL := Aside0.mk ((hb.block gl (Array.getElem?_eq_some_iff.1 HXLT.out).1).trans HXLT.out); have HYT := Aside0.mk ((hb.block gt (Array.getElem?_eq_some_iff.1 HXT.out).1).trans HXT.out); have bT : w3.cell? ⟨gt, 0, none⟩ = some (.slice A1 l1.length c1) := (blk_cell HYT.out 0).trans rfl; have HS3 := Aside0.mk hb.size; clear hb)
    | (go_at_call 24; (with_reducible refine (tempo_Check.calls k A1 c1 l1 _ _ (Kd.C_below HC1.out HB3.out) hc1 HT.out).mono ?_); rintro e w4 ⟨rfl, hb⟩; have HB4 := Aside0.mk (below_step HB3.out hb); have HZL := Aside0.mk ((hb.block gl (Array.getElem?_eq_some_iff.1 HYL.out).1).trans HYL.out); have HZT := Aside0.mk ((hb.block gt (Array.getElem?_eq_some_iff.1 HYT.out).1).trans HYT.out); have bL4 : w4.cell? ⟨gl, 0, none⟩ = some (.slice (some ad) l0.length c0) := (blk_cell HZL.out 0).trans rfl; clear hb))
  have hwt : w.heap.size ≤ gt + 1 := by have := HB1.out.size; rw [HGT.out]; omega
  have hltl : gl < gt + 1 := by have := (Array.getElem?_eq_some_iff.1 HXL.out).1; rw [HGT.out]; omega
  have hgt4 : gt + 1 ≤ w4.heap.size := (Array.getElem?_eq_some_iff.1 HZT.out).1
  have hu40 := Try.underlying40
  go_loopg [9, 25] l0.length (fun gq s9 s25 wr => ∃ (i : Nat) (acc : List Int), s25 = .int .i64 i ∧ i ≤ l0.length ∧ acc.length = i ∧ Aside0 (l0.length - i ≤ gq) ∧ Aside0 (cue_Drift.go k l1 l0 (l0.drop i) acc = some r) ∧ Aside0 (Kd.R (Kd.int .i64) 3 wr (gt + 1) (fun _ => True) s9 acc) ∧ Aside0 (Below (gt + 1) w4 wr))
  case atStart => exact ⟨0, [], rfl, Nat.zero_le _, rfl, ⟨by omega⟩, ⟨HGO.out⟩, ⟨Kd.R_nil _ _ _ _ _⟩, ⟨Below.refl _ _⟩⟩
  case round =>
    obtain ⟨i, acc, rfl, hi, hacc, HK, HG, HRr, HBr⟩ := hrel
    have hwr : gt + 1 ≤ wr.heap.size := Nat.le_trans hgt4 HBr.out.size
    have HBw := Aside0.mk (HB4.out.trans (HBr.out.mono hwt))
    by_cases hlt : i < l0.length
    · obtain ⟨a0, a1⟩ := cue_Check.cells (Kd.C_below HC0.out HBw.out) i hlt
      have hx : ∃ x n, l0.getD i z40 = x ∧ cue_Drift.late k l1 l0 x = some n ∧ cue_Drift.go k l1 l0 (l0.drop (i + 1)) (acc ++ [n]) = some r := by
        have h := HG.out
        rw [List.drop_eq_getElem_cons hlt] at h
        unfold cue_Drift.go at h
        rw [List.getD_eq_getElem?_getD, List.getElem?_eq_getElem hlt]
        cases hn : cue_Drift.late k l1 l0 l0[i] with
        | none => rw [hn] at h; cases h
        | some n => rw [hn, Option.bind_some] at h; exact ⟨_, n, rfl, hn, h⟩
      obtain ⟨x, n, hx, hn, hg2⟩ := hx
      rw [hx] at a0 a1
      have HN := Aside0.mk hn
      have HG2 := Aside0.mk hg2
      clear hx hn hg2
      go_wp2_with (first
        | (go_at_call 25; refine (cue_Drift.clo k ad c0 l0 A1 c1 l1 x n gl gt _ ?kl ?kt ?kc ?k0 ?kd hc1 HN.out).mono ?_; (case kl => exact (blk_cell (blk_alloc ((HBr.out.block gl hltl).trans HZL.out) _) 0).trans rfl); (case kt => exact (blk_cell (blk_alloc ((HBr.out.block gt (Nat.lt_succ_self _)).trans HZT.out) _) 0).trans rfl); (case kc => exact Kd.C_below HC0.out (HBw.out.alloc HBw.out.size _)); (case k0 => omega); (case kd => exact Kd.C_below HC1.out (HBw.out.alloc HBw.out.size _));
            rintro e w5 ⟨rfl, hb⟩; have HB5 := Aside0.mk ((HBr.out.alloc hwr _).trans (hb.mono (by simp; omega))); have HR5 := Aside0.mk (Kd.R_below (Kd.R_below HRr.out ((Below.refl _ wr).alloc (Nat.le_refl _) _)) hb); clear hb)
        | ((with_reducible refine gate_builtin (b := .append) (xs := #[.tmp 29, .tmp 33]) rfl ?_); at_builtin; refine Kd.R_append (Kd.int .i64) (w0 := w4) (gt + 1) rfl (.tmp 29) (.tmp 33) 31 3 (.int .i64 0) 8 rfl Try.underlying31 info3 rfl (by decide) (by omega) _ acc n [.int .i64 n] (fun _ => True) (fun _ => False) rfl rfl ?aP (fun _ hk => hk.elim) ?aF ?aO ?aB ?aS ?aL ?_; (case aP => exact rfl); (case aF => exact (fun _ _ => trivial)); (case aO => exact HR5.out); (case aB => exact HB5.out); (case aS => exact Nat.le_trans hgt4 HB5.out.size); (case aL => omega); intro v6 w6 ho hb hg hat; have HR6 := Aside0.mk ho; have HB6 := Aside0.mk hb; clear ho hb hg hat))
      go_roundg (l0.length - (i + 1))
      case measure => have := HK.out; omega
      case rel => exact ⟨i + 1, acc ++ [n], by go_num, by omega, by simp; omega, ⟨Nat.le_refl _⟩, HG2, HR6, HB6⟩
    · obtain rfl : i = l0.length := by omega
      have hr : acc = r := by
        have h := HG.out
        rw [List.drop_length] at h
        unfold cue_Drift.go at h
        exact Option.some.inj h
      subst hr
      go_wp2
      go_ret2
      exact ⟨_, rfl, Kd.R_lower HRr.out hwt, HBw.out⟩
theorem cue_Drift.calls (k : Nat) (A0 : Option Addr) (c0 : Nat) (l0 : List S40) (A1 : Option Addr) (c1 : Nat) (l1 : List S45) (r1 : List Int) (r2 : Int) (w : World) (hr0 : Kd.C k40 w A0 l0.length l0) (hc0 : l0.length ≤ c0) (hr1 : Kd.C k45 w A1 l1.length l1) (hc1 : l1.length ≤ c1) (h : cue_Drift.f k l0 l1 = some (r1, r2)) :
    Calls Try.prog 16 #[.slice A0 l0.length c0, .slice A1 l1.length c1] w fun e w' => ∃ v0_ : Value, e = .returned (.tuple #[v0_, .int .i64 r2]) ∧ Kd.R (Kd.int .i64) 3 w' w.heap.size (fun _ => True) v0_ r1 ∧ Below w.heap.size w w' := by
  unfold cue_Drift.f at h
  by_cases hc : cue_Check.chk l0 = 0
  · rw [if_pos hc] at h
    have hl : 2 ≤ l0.length ∧ l0.length ≤ 64 := by
      unfold cue_Check.chk at hc
      by_cases h1 : l0.length < 2
      · rw [if_pos h1] at hc; cases hc
      rw [if_neg h1] at hc
      by_cases h2 : 64 < l0.length
      · rw [if_pos h2] at hc; cases hc
      exact ⟨by omega, by omega⟩
    cases ht : tempo_Check.f k l1 with
    | none => rw [ht] at h; cases h
    | some e =>
      rw [ht, Option.bind_some] at h
      by_cases he : e = 0
      · rw [if_pos he] at h
        subst he
        cases hg : cue_Drift.go k l1 l0 l0 [] with
        | none => rw [hg] at h; cases h
        | some r =>
          rw [hg, Option.bind_some] at h
          injection h with h
          injection h with e1 e2
          subst e1 e2
          exact cue_Drift.walk_ok k A0 c0 l0 A1 c1 l1 r w hr0 hc0 hr1 hc1 hc ht hl.1 hl.2 hg
      · rw [if_neg he] at h
        injection h with h
        injection h with e1 e2
        subst e1 e2
        exact (cue_Drift.walk_tbad k A0 c0 l0 A1 c1 l1 e w hr0 hc0 hr1 hc1 hc ht he).mono fun e w' ⟨he, hb⟩ => ⟨_, he, Kd.R_nil _ _ _ _ _, hb⟩
  · rw [if_neg hc] at h
    injection h with h
    injection h with e1 e2
    subst e1 e2
    exact (cue_Drift.walk_bad A0 c0 l0 A1 c1 l1 w hr0 hc0 hr1 hc1 hc).mono fun e w' ⟨he, hb⟩ => ⟨_, he, Kd.R_nil _ _ _ _ _, hb⟩

end Go.Proofs.Ytljjgcfifhfhdaa.X
