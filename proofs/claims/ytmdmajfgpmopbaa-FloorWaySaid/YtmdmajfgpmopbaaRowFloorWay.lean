/- FloorWay: WHATEVER THE INPUT, the law returns true and its arguments read as they did: the row over the printed walk and the plain statement. -/
import Derived.Test.YtmdmajfgpmopbaaRows
import Derived.Test.YtmdmajfgpmopbaaXOpen
import Derived.Test.YtmdmajfgpmopbaaX74
import Derived.Test.YtmdmajfgpmopbaaPureFloorWay
import Derived.WalkKit
import Derived.ProofKit
import Derived.OpenShut
import Derived.ShutString
import Derived.ChangeOld
import Derived.Below
import Derived.SizedLaws
import Derived.JoinedCond
import Derived.Carry
namespace Go.Proofs.Ytmdmajfgpmopbaa.floorWay
open Go.ChangeShapes Go.WideShapes Go.ChangeAt Go.RowKit Go.Proofs.YtmdmajfgpmopbaaW.PrintWords
open Go.ChangeMaps (open_string shut_string)
set_option linter.unusedVariables false
set_option linter.unusedSimpArgs false
theorem own : ownKnob Try.prog.godebug = none := by kernel_rfl
theorem laidOut : laidOutB Try.prog = true := by kernel_rfl
set_option maxRecDepth 100000 in
theorem contract (H : Type) (enc : TypeId × Value → H) (W : World) (base : Nat) (args : Array Value) (ds gs : List (DataW H)) (before : List MemPlace)
    (hval : ∀ (j : Nat) t v, Try.f8.params[j]? = some t → args[j]? = some v → Value.okWide Try.prog W .any base t v)
    (hW : DataW.Whole enc Try.prog Try.f8.params.toList Rows.floorWaySpec.vars false W args.toList ds gs before) :
    Calls Try.prog 8 args W fun e W' => ∃ v, e = .returned v ∧ Rows.floorWaySpec.post enc Try.prog Try.f8 false true false false W args v W' := by
  have hW' := hW
  obtain ⟨p, q, hA0, hV, rfl, hfz, hnd⟩ := hW
  have hA : DataW.TrodAll enc Try.prog W 0 (fun _ => true) true Try.f8.params.toList args.toList ds p := hA0
  rw [Try.params8] at hA hval
  obtain ⟨v0, vs0, d0, ds0, p0, q0, hargs, rfl, rfl, h0, r0⟩ := trodAll_cons hA
  obtain ⟨rfl, rfl, rfl⟩ := trodAll_nil r0
  obtain rfl : args = #[v0] := by cases args; simp_all
  obtain ⟨rfl, rfl⟩ := trodVars_none hV
  have k0 := h0
  have lt0 : ∀ x ∈ p0, x.block < W.heap.size := by obtain ⟨m, hm⟩ := k0; exact DataW.trod_lt m _ _ _ hm
  have o0 : Opens enc Try.prog W (Kd.pair (Kd.slice 53 X.k53) (Kd.slice 3 (Kd.int .i64))) 25 _ _ := (Opens.agg Try.underlying25 (by kernel_rfl) (OpensFs.cons rfl (Opens.slice Try.underlying22 (by kernel_rfl) (show Opens enc Try.prog W X.k53 53 _ _ from Opens.struct Try.underlying53 (by kernel_rfl) (fun x : X.S53 => (x.f0, x.f1, x.f2, x.f3)) (fun p => ⟨p.1, p.2.1, p.2.2.1, p.2.2.2⟩) (fun _ => rfl) (OpensFs.cons rfl (show Opens enc Try.prog W X.k35 35 _ _ from Opens.struct Try.underlying35 (by kernel_rfl) (fun x : X.S35 => (x.f0, x.f1)) (fun p => ⟨p.1, p.2⟩) (fun _ => rfl) (OpensFs.cons rfl (Opens.int Try.underlying3 (by kernel_rfl)) (OpensFs.last rfl (Opens.int Try.underlying3 (by kernel_rfl))))) (OpensFs.cons rfl (Opens.int Try.underlying3 (by kernel_rfl)) (OpensFs.cons rfl (Opens.int Try.underlying3 (by kernel_rfl)) (OpensFs.last rfl (show Opens enc Try.prog W X.k51 51 _ _ from Opens.structA Try.underlying51 (by kernel_rfl) (fun x : X.S51 => (x.f0, x.f1, x.f2, x.f3, x.f4, x.f5)) (fun p => ⟨p.1, p.2.1, p.2.2.1, p.2.2.2.1, p.2.2.2.2.1, p.2.2.2.2.2⟩) (fun _ => rfl) (OpensAs.cons (show Opens enc Try.prog W X.k50 50 _ _ from Opens.struct Try.underlying50 (by kernel_rfl) (fun x : X.S50 => (x.f0, x.f1, x.f2)) (fun p => ⟨p.1, p.2.1, p.2.2⟩) (fun _ => rfl) (OpensFs.cons rfl (Opens.int Try.underlying3 (by kernel_rfl)) (OpensFs.cons rfl (Opens.int Try.underlying3 (by kernel_rfl)) (OpensFs.last rfl (Opens.int Try.underlying3 (by kernel_rfl)))))) (OpensAs.cons (show Opens enc Try.prog W X.k50 50 _ _ from Opens.struct Try.underlying50 (by kernel_rfl) (fun x : X.S50 => (x.f0, x.f1, x.f2)) (fun p => ⟨p.1, p.2.1, p.2.2⟩) (fun _ => rfl) (OpensFs.cons rfl (Opens.int Try.underlying3 (by kernel_rfl)) (OpensFs.cons rfl (Opens.int Try.underlying3 (by kernel_rfl)) (OpensFs.last rfl (Opens.int Try.underlying3 (by kernel_rfl)))))) (OpensAs.cons (show Opens enc Try.prog W X.k50 50 _ _ from Opens.struct Try.underlying50 (by kernel_rfl) (fun x : X.S50 => (x.f0, x.f1, x.f2)) (fun p => ⟨p.1, p.2.1, p.2.2⟩) (fun _ => rfl) (OpensFs.cons rfl (Opens.int Try.underlying3 (by kernel_rfl)) (OpensFs.cons rfl (Opens.int Try.underlying3 (by kernel_rfl)) (OpensFs.last rfl (Opens.int Try.underlying3 (by kernel_rfl)))))) (OpensAs.cons (show Opens enc Try.prog W X.k50 50 _ _ from Opens.struct Try.underlying50 (by kernel_rfl) (fun x : X.S50 => (x.f0, x.f1, x.f2)) (fun p => ⟨p.1, p.2.1, p.2.2⟩) (fun _ => rfl) (OpensFs.cons rfl (Opens.int Try.underlying3 (by kernel_rfl)) (OpensFs.cons rfl (Opens.int Try.underlying3 (by kernel_rfl)) (OpensFs.last rfl (Opens.int Try.underlying3 (by kernel_rfl)))))) (OpensAs.cons (show Opens enc Try.prog W X.k50 50 _ _ from Opens.struct Try.underlying50 (by kernel_rfl) (fun x : X.S50 => (x.f0, x.f1, x.f2)) (fun p => ⟨p.1, p.2.1, p.2.2⟩) (fun _ => rfl) (OpensFs.cons rfl (Opens.int Try.underlying3 (by kernel_rfl)) (OpensFs.cons rfl (Opens.int Try.underlying3 (by kernel_rfl)) (OpensFs.last rfl (Opens.int Try.underlying3 (by kernel_rfl)))))) (OpensAs.last (show Opens enc Try.prog W X.k50 50 _ _ from Opens.struct Try.underlying50 (by kernel_rfl) (fun x : X.S50 => (x.f0, x.f1, x.f2)) (fun p => ⟨p.1, p.2.1, p.2.2⟩) (fun _ => rfl) (OpensFs.cons rfl (Opens.int Try.underlying3 (by kernel_rfl)) (OpensFs.cons rfl (Opens.int Try.underlying3 (by kernel_rfl)) (OpensFs.last rfl (Opens.int Try.underlying3 (by kernel_rfl))))))))))))))))))) (OpensFs.last rfl (Opens.slice Try.underlying23 (by kernel_rfl) (Opens.int Try.underlying3 (by kernel_rfl))))))
  obtain ⟨y0, cs0, rfl, K0, G0, b0⟩ := o0.arg_agg Try.underlying25 (hval 0 25 v0 rfl rfl) k0
  obtain ⟨x0_0, x0_1⟩ := y0
  obtain ⟨_, _, hcs0, ⟨A0_0, c0_0, rfl, l0_0, C0_0⟩, ⟨A0_1, c0_1, rfl, l0_1, C0_1⟩⟩ := K0
  obtain rfl : cs0 = #[.slice A0_0 x0_0.length c0_0, .slice A0_1 x0_1.length c0_1] := by apply Array.toList_inj.1; simpa using hcs0
  obtain ⟨g0_0, g0_1⟩ := G0
  obtain ⟨k, hf⟩ := Pure.FloorWay x0_0 x0_1 
  refine (X.dancestudiolaw43_FloorWay.calls k _ _ x0_0 _ _ x0_1 true W C0_0 l0_0 C0_1 l0_1 hf).mono ?_
  rintro e W' ⟨rfl, hd⟩
  have bel : Below W.heap.size W W' := hd
  exact ⟨_, rfl, _, _, _, [], _, [], hW', trodAll_mk1 (shut_bool Try.underlying4 _), (trodAll_cons_mk (Below.trod laidOut (by kernel_rfl) (of_decide_eq_true (by kernel_rfl)) k0 bel lt0) trodAll_mk0), rfl, bel.frame _, fun h => by cases h⟩
set_option maxRecDepth 100000 in
theorem lifted (os : Os) (started : os.Started) (H : Type) (enc : TypeId × Value → H) :
    ReturnsInHanded {} Try.checked os 8 .any (Rows.floorWaySpec.pre6 enc Try.prog Try.f8 Rows.floorWayRow.domain false) (Rows.floorWaySpec.post enc Try.prog Try.f8 false true false false) := by
  refine returnsInHanded_of_change_sized (C := Try.checked) own started (by kernel_rfl) Try.func8
    (ChangeSpec.witness6 (enc := enc) (C := Try.checked) false ⟨#[], #[.agg #[.slice none 0 0, .slice none 0 0]], []⟩ 8 (by kernel_rfl) (by kernel_rfl) (by kernel_rfl) (by kernel_rfl)) ?_
  intro W base args ds gs before hval hW _ _ _
  exact contract H enc W base args ds gs before hval hW
theorem over : Rows.floorWayRow.holds Try.pinned (OpenSpec.ofChange Rows.floorWaySpec) :=
  OpenClaim.holds_of_wide 8 Try.f8 rfl rfl rfl rfl rfl rfl rfl ⟨rfl, rfl, rfl, rfl, rfl⟩ rfl rfl rfl rfl rfl (by kernel_rfl) Try.func8 (by kernel_rfl)
    (of_decide_eq_true (by kernel_rfl)) (by unfold Func.isWrapper; first | (rw [if_pos (by decide +kernel)]; kernel_rfl) | (rw [if_neg (by decide +kernel)]; exact ⟨rfl, rfl⟩))
    (fun os started H enc _ => lifted os started H enc)
end Go.Proofs.Ytmdmajfgpmopbaa.floorWay
namespace Go.Proofs.Ytmdmajfgpmopbaa
/-- The row, under a short name. -/
theorem floorWay_holds : Rows.FloorWaySaid := floorWay.over
#print axioms floorWay_holds
end Go.Proofs.Ytmdmajfgpmopbaa
