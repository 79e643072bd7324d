/- StageMirrors: WHATEVER THE INPUT, the law returns true and its arguments read as they did: the row over the printed walk and the plain statement. -/
import Derived.Test.YtmfcgmdecindnaaRows
import Derived.Test.YtmfcgmdecindnaaXOpen
import Derived.Test.YtmfcgmdecindnaaX46
import Derived.Test.YtmfcgmdecindnaaSMirrors
import Derived.WalkKit
import Derived.ProofKit
import Derived.OpenShut
import Derived.ShutString
import Derived.ChangeOld
import Derived.Below
import Derived.SizedLaws
import Derived.JoinedCond
import Derived.Carry
namespace Go.Proofs.Ytmfcgmdecindnaa.stageMirrors
open Go.ChangeShapes Go.WideShapes Go.ChangeAt Go.RowKit Go.Proofs.YtmfcgmdecindnaaW.PrintWords
open Go.ChangeMaps (open_string shut_string)
set_option linter.unusedVariables false
set_option linter.unusedSimpArgs false
theorem own : ownKnob Try.prog.godebug = none := by kernel_rfl
theorem laidOut : laidOutB Try.prog = true := by kernel_rfl
set_option maxRecDepth 100000 in
theorem contract (H : Type) (enc : TypeId × Value → H) (W : World) (base : Nat) (args : Array Value) (ds gs : List (DataW H)) (before : List MemPlace)
    (hval : ∀ (j : Nat) t v, Try.f8.params[j]? = some t → args[j]? = some v → Value.okWide Try.prog W .any base t v)
    (hW : DataW.Whole enc Try.prog Try.f8.params.toList Rows.stageMirrorsSpec.vars false W args.toList ds gs before) :
    Calls Try.prog 8 args W fun e W' => ∃ v, e = .returned v ∧ Rows.stageMirrorsSpec.post enc Try.prog Try.f8 false true false false W args v W' := by
  have hW' := hW
  obtain ⟨p, q, hA0, hV, rfl, hfz, hnd⟩ := hW
  have hA : DataW.TrodAll enc Try.prog W 0 (fun _ => true) true Try.f8.params.toList args.toList ds p := hA0
  rw [Try.params8] at hA hval
  obtain ⟨v0, vs0, d0, ds0, p0, q0, hargs, rfl, rfl, h0, r0⟩ := trodAll_cons hA
  obtain ⟨rfl, rfl, rfl⟩ := trodAll_nil r0
  obtain rfl : args = #[v0] := by cases args; simp_all
  obtain ⟨rfl, rfl⟩ := trodVars_none hV
  have k0 := h0
  have lt0 : ∀ x ∈ p0, x.block < W.heap.size := by obtain ⟨m, hm⟩ := k0; exact DataW.trod_lt m _ _ _ hm
  have o0 : Opens enc Try.prog W (Kd.pair (Kd.int .i64) (Kd.pair (Kd.int .i64) (Kd.slice 41 X.k41))) 24 _ _ := (Opens.agg Try.underlying24 (by kernel_rfl) (OpensFs.cons rfl (Opens.int Try.underlying3 (by kernel_rfl)) (OpensFs.cons rfl (Opens.int Try.underlying3 (by kernel_rfl)) (OpensFs.last rfl (Opens.slice Try.underlying22 (by kernel_rfl) (show Opens enc Try.prog W X.k41 41 _ _ from Opens.struct Try.underlying41 (by kernel_rfl) (fun x : X.S41 => (x.f0, x.f1)) (fun p => ⟨p.1, p.2⟩) (fun _ => rfl) (OpensFs.cons rfl (show Opens enc Try.prog W X.k26 26 _ _ from Opens.struct Try.underlying26 (by kernel_rfl) (fun x : X.S26 => (x.f0, x.f1)) (fun p => ⟨p.1, p.2⟩) (fun _ => rfl) (OpensFs.cons rfl (Opens.int Try.underlying3 (by kernel_rfl)) (OpensFs.last rfl (Opens.int Try.underlying3 (by kernel_rfl))))) (OpensFs.last rfl (Opens.int Try.underlying3 (by kernel_rfl))))))))))
  obtain ⟨y0, cs0, rfl, K0, G0, b0⟩ := o0.arg_agg Try.underlying24 (hval 0 24 v0 rfl rfl) k0
  obtain ⟨x0_0, x0_1, x0_2⟩ := y0
  obtain ⟨_, _, hcs0, rfl, ⟨_, _, rfl, rfl, ⟨A0_2, c0_2, rfl, l0_2, C0_2⟩⟩⟩ := K0
  obtain rfl : cs0 = #[.int .i64 x0_0, .int .i64 x0_1, .slice A0_2 x0_2.length c0_2] := by apply Array.toList_inj.1; simpa using hcs0
  obtain ⟨g0_0, g0_1, g0_2⟩ := G0
  obtain ⟨k, hf⟩ := Pure.StageMirrors x0_0 x0_1 x0_2 
  refine (X.dancestudiolaw42_StageMirrors.calls k x0_0 x0_1 _ _ x0_2 true W C0_2 l0_2 hf).mono ?_
  rintro e W' ⟨rfl, hd⟩
  have bel : Below W.heap.size W W' := hd
  exact ⟨_, rfl, _, _, _, [], _, [], hW', trodAll_mk1 (shut_bool Try.underlying4 _), (trodAll_cons_mk (Below.trod laidOut (by kernel_rfl) (of_decide_eq_true (by kernel_rfl)) k0 bel lt0) trodAll_mk0), rfl, bel.frame _, fun h => by cases h⟩
set_option maxRecDepth 100000 in
theorem lifted (os : Os) (started : os.Started) (H : Type) (enc : TypeId × Value → H) :
    ReturnsInHanded {} Try.checked os 8 .any (Rows.stageMirrorsSpec.pre6 enc Try.prog Try.f8 Rows.stageMirrorsRow.domain false) (Rows.stageMirrorsSpec.post enc Try.prog Try.f8 false true false false) := by
  refine returnsInHanded_of_change_sized (C := Try.checked) own started (by kernel_rfl) Try.func8
    (ChangeSpec.witness6 (enc := enc) (C := Try.checked) false ⟨#[], #[.agg #[.int .i64 0, .int .i64 0, .slice none 0 0]], []⟩ 8 (by kernel_rfl) (by kernel_rfl) (by kernel_rfl) (by kernel_rfl)) ?_
  intro W base args ds gs before hval hW _ _ _
  exact contract H enc W base args ds gs before hval hW
theorem over : Rows.stageMirrorsRow.holds Try.pinned (OpenSpec.ofChange Rows.stageMirrorsSpec) :=
  OpenClaim.holds_of_wide 8 Try.f8 rfl rfl rfl rfl rfl rfl rfl ⟨rfl, rfl, rfl, rfl, rfl⟩ rfl rfl rfl rfl rfl (by kernel_rfl) Try.func8 (by kernel_rfl)
    (of_decide_eq_true (by kernel_rfl)) (by unfold Func.isWrapper; first | (rw [if_pos (by decide +kernel)]; kernel_rfl) | (rw [if_neg (by decide +kernel)]; exact ⟨rfl, rfl⟩))
    (fun os started H enc _ => lifted os started H enc)
end Go.Proofs.Ytmfcgmdecindnaa.stageMirrors
namespace Go.Proofs.Ytmfcgmdecindnaa
/-- The row, under a short name. -/
theorem stageMirrors_holds : Rows.StageMirrorsSaid := stageMirrors.over
#print axioms stageMirrors_holds
end Go.Proofs.Ytmfcgmdecindnaa
