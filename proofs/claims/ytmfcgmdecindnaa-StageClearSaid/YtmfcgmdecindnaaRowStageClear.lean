/- StageClear: WHATEVER THE INPUT, the law returns true and its arguments read as they did: the row over the printed walk and the plain statement. -/
import Derived.Test.YtmfcgmdecindnaaRows
import Derived.Test.YtmfcgmdecindnaaXOpen
import Derived.Test.YtmfcgmdecindnaaX40
import Derived.Test.YtmfcgmdecindnaaSClear
import Derived.WalkKit
import Derived.ProofKit
import Derived.OpenShut
import Derived.ShutString
import Derived.ChangeOld
import Derived.Below
import Derived.SizedLaws
import Derived.JoinedCond
import Derived.Carry
namespace Go.Proofs.Ytmfcgmdecindnaa.stageClear
open Go.ChangeShapes Go.WideShapes Go.ChangeAt Go.RowKit Go.Proofs.YtmfcgmdecindnaaW.PrintWords
open Go.ChangeMaps (open_string shut_string)
set_option linter.unusedVariables false
set_option linter.unusedSimpArgs false
theorem own : ownKnob Try.prog.godebug = none := by kernel_rfl
theorem laidOut : laidOutB Try.prog = true := by kernel_rfl
set_option maxRecDepth 100000 in
theorem contract (H : Type) (enc : TypeId × Value → H) (W : World) (base : Nat) (args : Array Value) (ds gs : List (DataW H)) (before : List MemPlace)
    (hval : ∀ (j : Nat) t v, Try.f5.params[j]? = some t → args[j]? = some v → Value.okWide Try.prog W .any base t v)
    (hW : DataW.Whole enc Try.prog Try.f5.params.toList Rows.stageClearSpec.vars false W args.toList ds gs before) :
    Calls Try.prog 5 args W fun e W' => ∃ v, e = .returned v ∧ Rows.stageClearSpec.post enc Try.prog Try.f5 false true false false W args v W' := by
  have hW' := hW
  obtain ⟨p, q, hA0, hV, rfl, hfz, hnd⟩ := hW
  have hA : DataW.TrodAll enc Try.prog W 0 (fun _ => true) true Try.f5.params.toList args.toList ds p := hA0
  rw [Try.params5] at hA hval
  obtain ⟨v0, vs0, d0, ds0, p0, q0, hargs, rfl, rfl, h0, r0⟩ := trodAll_cons hA
  obtain ⟨v1, vs1, d1, ds1, p1, q1, rfl, rfl, rfl, h1, r1⟩ := trodAll_cons r0
  obtain ⟨v2, vs2, d2, ds2, p2, q2, rfl, rfl, rfl, h2, r2⟩ := trodAll_cons r1
  obtain ⟨rfl, rfl, rfl⟩ := trodAll_nil r2
  obtain rfl : args = #[v0, v1, v2] := by cases args; simp_all
  obtain ⟨rfl, rfl⟩ := trodVars_none hV
  have k0 := h0
  have lt0 : ∀ x ∈ p0, x.block < W.heap.size := by obtain ⟨m, hm⟩ := k0; exact DataW.trod_lt m _ _ _ hm
  have o0 : Opens enc Try.prog W (Kd.pair (Kd.int .i64) (Kd.pair (Kd.int .i64) (Kd.slice 41 X.k41))) 24 _ _ := (Opens.agg Try.underlying24 (by kernel_rfl) (OpensFs.cons rfl (Opens.int Try.underlying3 (by kernel_rfl)) (OpensFs.cons rfl (Opens.int Try.underlying3 (by kernel_rfl)) (OpensFs.last rfl (Opens.slice Try.underlying22 (by kernel_rfl) (show Opens enc Try.prog W X.k41 41 _ _ from Opens.struct Try.underlying41 (by kernel_rfl) (fun x : X.S41 => (x.f0, x.f1)) (fun p => ⟨p.1, p.2⟩) (fun _ => rfl) (OpensFs.cons rfl (show Opens enc Try.prog W X.k26 26 _ _ from Opens.struct Try.underlying26 (by kernel_rfl) (fun x : X.S26 => (x.f0, x.f1)) (fun p => ⟨p.1, p.2⟩) (fun _ => rfl) (OpensFs.cons rfl (Opens.int Try.underlying3 (by kernel_rfl)) (OpensFs.last rfl (Opens.int Try.underlying3 (by kernel_rfl))))) (OpensFs.last rfl (Opens.int Try.underlying3 (by kernel_rfl))))))))))
  obtain ⟨y0, cs0, rfl, K0, G0, b0⟩ := o0.arg_agg Try.underlying24 (hval 0 24 v0 rfl rfl) k0
  obtain ⟨x0_0, x0_1, x0_2⟩ := y0
  obtain ⟨_, _, hcs0, rfl, ⟨_, _, rfl, rfl, ⟨A0_2, c0_2, rfl, l0_2, C0_2⟩⟩⟩ := K0
  obtain rfl : cs0 = #[.int .i64 x0_0, .int .i64 x0_1, .slice A0_2 x0_2.length c0_2] := by apply Array.toList_inj.1; simpa using hcs0
  obtain ⟨g0_0, g0_1, g0_2⟩ := G0
  have k1 := h1
  have lt1 : ∀ x ∈ p1, x.block < W.heap.size := by obtain ⟨m, hm⟩ := k1; exact DataW.trod_lt m _ _ _ hm
  have o1 : Opens enc Try.prog W (Kd.pair (Kd.pair (Kd.int .i64) (Kd.int .i64)) (Kd.pair (Kd.pair (Kd.int .i64) (Kd.int .i64)) (Kd.int .i64))) 35 _ _ := (Opens.agg Try.underlying35 (by kernel_rfl) (OpensFs.cons rfl (Opens.agg Try.underlying26 (by kernel_rfl) (OpensFs.cons rfl (Opens.int Try.underlying3 (by kernel_rfl)) (OpensFs.last rfl (Opens.int Try.underlying3 (by kernel_rfl))))) (OpensFs.cons rfl (Opens.agg Try.underlying26 (by kernel_rfl) (OpensFs.cons rfl (Opens.int Try.underlying3 (by kernel_rfl)) (OpensFs.last rfl (Opens.int Try.underlying3 (by kernel_rfl))))) (OpensFs.last rfl (Opens.int Try.underlying3 (by kernel_rfl))))))
  obtain ⟨y1, cs1, rfl, K1, G1, b1⟩ := o1.arg_agg Try.underlying35 (hval 1 35 v1 rfl rfl) k1
  obtain ⟨⟨x1_0_0, x1_0_1⟩, ⟨x1_1_0, x1_1_1⟩, x1_2⟩ := y1
  obtain ⟨_, _, hcs1, ⟨_, _, rfl, rfl, rfl⟩, ⟨_, _, rfl, ⟨_, _, rfl, rfl, rfl⟩, rfl⟩⟩ := K1
  obtain rfl : cs1 = #[.int .i64 x1_0_0, .int .i64 x1_0_1, .int .i64 x1_1_0, .int .i64 x1_1_1, .int .i64 x1_2] := by apply Array.toList_inj.1; simpa using hcs1
  obtain ⟨⟨g1_0_0, g1_0_1⟩, ⟨g1_1_0, g1_1_1⟩, g1_2⟩ := G1
  have k2 := h2
  have lt2 : ∀ x ∈ p2, x.block < W.heap.size := by obtain ⟨m, hm⟩ := k2; exact DataW.trod_lt m _ _ _ hm
  have o2 : Opens enc Try.prog W (Kd.pair (Kd.int .u8) (Kd.int .u8)) 39 _ _ := (Opens.aggA Try.underlying39 (by kernel_rfl) (OpensAs.cons (Opens.int Try.underlying5 (by kernel_rfl)) (OpensAs.last (Opens.int Try.underlying5 (by kernel_rfl)))))
  obtain ⟨y2, cs2, rfl, K2, G2, b2⟩ := o2.arg_aggA Try.underlying39 (hval 2 39 v2 rfl rfl) k2
  obtain ⟨x2_0, x2_1⟩ := y2
  obtain ⟨_, _, hcs2, rfl, rfl⟩ := K2
  obtain rfl : cs2 = #[.int .u8 x2_0, .int .u8 x2_1] := by apply Array.toList_inj.1; simpa using hcs2
  obtain ⟨g2_0, g2_1⟩ := G2
  obtain ⟨k, hf⟩ := Pure.StageClear x0_0 x0_1 x0_2 x1_0_0 x1_0_1 x1_1_0 x1_1_1 x1_2 x2_0 x2_1 g2_0 g2_1
  refine (X.dancestudiolaw42_StageClear.calls k x0_0 x0_1 _ _ x0_2 x1_0_0 x1_0_1 x1_1_0 x1_1_1 x1_2 x2_0 x2_1 true W C0_2 l0_2 hf).mono ?_
  rintro e W' ⟨rfl, hd⟩
  have bel : Below W.heap.size W W' := hd
  exact ⟨_, rfl, _, _, _, [], _, [], hW', trodAll_mk1 (shut_bool Try.underlying4 _), (trodAll_cons_mk (Below.trod laidOut (by kernel_rfl) (of_decide_eq_true (by kernel_rfl)) k0 bel lt0) (trodAll_cons_mk (Below.trod laidOut (by kernel_rfl) (of_decide_eq_true (by kernel_rfl)) k1 bel lt1) (trodAll_cons_mk (Below.trod laidOut (by kernel_rfl) (of_decide_eq_true (by kernel_rfl)) k2 bel lt2) trodAll_mk0))), rfl, bel.frame _, fun h => by cases h⟩
set_option maxRecDepth 100000 in
theorem lifted (os : Os) (started : os.Started) (H : Type) (enc : TypeId × Value → H) :
    ReturnsInHanded {} Try.checked os 5 .any (Rows.stageClearSpec.pre6 enc Try.prog Try.f5 Rows.stageClearRow.domain false) (Rows.stageClearSpec.post enc Try.prog Try.f5 false true false false) := by
  refine returnsInHanded_of_change_sized (C := Try.checked) own started (by kernel_rfl) Try.func5
    (ChangeSpec.witness6 (enc := enc) (C := Try.checked) false ⟨#[], #[.agg #[.int .i64 0, .int .i64 0, .slice none 0 0], .agg #[.int .i64 0, .int .i64 0, .int .i64 0, .int .i64 0, .int .i64 0], .agg #[.int .u8 0, .int .u8 0]], []⟩ 8 (by kernel_rfl) (by kernel_rfl) (by kernel_rfl) (by kernel_rfl)) ?_
  intro W base args ds gs before hval hW _ _ _
  exact contract H enc W base args ds gs before hval hW
theorem over : Rows.stageClearRow.holds Try.pinned (OpenSpec.ofChange Rows.stageClearSpec) :=
  OpenClaim.holds_of_wide 5 Try.f5 rfl rfl rfl rfl rfl rfl rfl ⟨rfl, rfl, rfl, rfl, rfl⟩ rfl rfl rfl rfl rfl (by kernel_rfl) Try.func5 (by kernel_rfl)
    (of_decide_eq_true (by kernel_rfl)) (by unfold Func.isWrapper; first | (rw [if_pos (by decide +kernel)]; kernel_rfl) | (rw [if_neg (by decide +kernel)]; exact ⟨rfl, rfl⟩))
    (fun os started H enc _ => lifted os started H enc)
end Go.Proofs.Ytmfcgmdecindnaa.stageClear
namespace Go.Proofs.Ytmfcgmdecindnaa
/-- The row, under a short name. -/
theorem stageClear_holds : Rows.StageClearSaid := stageClear.over
#print axioms stageClear_holds
end Go.Proofs.Ytmfcgmdecindnaa
