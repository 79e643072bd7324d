/- WireMemory: WHATEVER THE INPUT (of bulk at most 1048576), the law returns true and its arguments read as they did: the row over the printed walk and the plain statement. -/
import Derived.Test.YtmmnhokejadgaaaRows
import Derived.Test.YtmmnhokejadgaaaXOpen
import Derived.Test.YtmmnhokejadgaaaX16
import Derived.Test.YtmmnhokejadgaaaPureWireMemory
import Derived.WalkKit
import Derived.ProofKit
import Derived.OpenShut
import Derived.ShutString
import Derived.ChangeOld
import Derived.Below
import Derived.SizedLaws
import Derived.JoinedCond
import Derived.Carry
namespace Go.Proofs.Ytmmnhokejadgaaa.wireMemoryUpto
open Go.ChangeShapes Go.WideShapes Go.ChangeAt Go.RowKit Go.Proofs.YtmmnhokejadgaaaW.PrintWords
open Go.ChangeMaps (open_string shut_string)
set_option linter.unusedVariables false
set_option linter.unusedSimpArgs false
theorem own : ownKnob Try.prog.godebug = none := by kernel_rfl
theorem laidOut : laidOutB Try.prog = true := by kernel_rfl
set_option maxRecDepth 100000 in
theorem contract (H : Type) (enc : TypeId × Value → H) (W : World) (base : Nat) (args : Array Value) (ds gs : List (DataW H)) (before : List MemPlace)
    (hval : ∀ (j : Nat) t v, Try.f10.params[j]? = some t → args[j]? = some v → Value.okWide Try.prog W .any base t v)
    (hW : DataW.Whole enc Try.prog Try.f10.params.toList Rows.wireMemorySpec.vars false W args.toList ds gs before) (hk : Rows.uptoSmall H (ds ++ gs) = true) :
    Calls Try.prog 10 args W fun e W' => ∃ v, e = .returned v ∧ Rows.wireMemorySpec.post enc Try.prog Try.f10 false true false false W args v W' := by
  have hW' := hW
  obtain ⟨p, q, hA0, hV, rfl, hfz, hnd⟩ := hW
  have hA : DataW.TrodAll enc Try.prog W 0 (fun _ => true) true Try.f10.params.toList args.toList ds p := hA0
  rw [Try.params10] at hA hval
  obtain ⟨v0, vs0, d0, ds0, p0, q0, hargs, rfl, rfl, h0, r0⟩ := trodAll_cons hA
  obtain ⟨v1, vs1, d1, ds1, p1, q1, rfl, rfl, rfl, h1, r1⟩ := trodAll_cons r0
  obtain ⟨rfl, rfl, rfl⟩ := trodAll_nil r1
  obtain rfl : args = #[v0, v1] := by cases args; simp_all
  obtain ⟨rfl, rfl⟩ := trodVars_none hV
  have k0 := h0
  have lt0 : ∀ x ∈ p0, x.block < W.heap.size := by obtain ⟨m, hm⟩ := k0; exact DataW.trod_lt m _ _ _ hm
  have o0 : Opens enc Try.prog W (Kd.pair (Kd.int .i64) (Kd.pair Kd.string (Kd.slice 3 (Kd.int .i64)))) 42 _ _ := (Opens.agg Try.underlying42 (by kernel_rfl) (OpensFs.cons rfl (Opens.int Try.underlying3 (by kernel_rfl)) (OpensFs.cons rfl (Opens.string Try.underlying9 (by kernel_rfl)) (OpensFs.last rfl (Opens.slice Try.underlying35 (by kernel_rfl) (Opens.int Try.underlying3 (by kernel_rfl)))))))
  obtain ⟨y0, cs0, rfl, K0, G0, b0⟩ := o0.arg_agg Try.underlying42 (hval 0 42 v0 rfl rfl) k0
  obtain ⟨x0_0, x0_1, x0_2⟩ := y0
  obtain ⟨_, _, hcs0, rfl, ⟨_, _, rfl, rfl, ⟨A0_2, c0_2, rfl, l0_2, C0_2⟩⟩⟩ := K0
  obtain rfl : cs0 = #[.int .i64 x0_0, .string x0_1, .slice A0_2 x0_2.length c0_2] := by apply Array.toList_inj.1; simpa using hcs0
  obtain ⟨g0_0, g0_1, g0_2⟩ := G0
  have k1 := h1
  have lt1 : ∀ x ∈ p1, x.block < W.heap.size := by obtain ⟨m, hm⟩ := k1; exact DataW.trod_lt m _ _ _ hm
  have o1 : Opens enc Try.prog W (Kd.slice 5 (Kd.int .u8)) 22 _ _ := (Opens.slice Try.underlying22 (by kernel_rfl) (Opens.int Try.underlying5 (by kernel_rfl)))
  obtain ⟨x1, A1, c1, rfl, l1, C1, G1, b1⟩ := o1.arg_slice Try.underlying22 (hval 1 22 v1 rfl rfl) k1
  simp only [List.append_nil] at hW' hk
  have hb : (1 + (x0_1.size + 1) + (weigh (fun y => 1) x0_2 + 1) + 1) + (weigh (fun y => 1) x1 + 1) ≤ 1048576 := by
    have h := of_decide_eq_true hk
    simp only [List.cons_append, List.nil_append, Rows.uptoBulkAll] at h
    first | omega | (simp at *; omega)
  obtain ⟨k, hf⟩ := Pure.WireMemory x0_0 x0_1 x0_2 x1 g0_0 g0_1 g0_2 G1 hb
  refine (X.dancestudiolaw07_WireMemory.calls k x0_0 x0_1 _ _ x0_2 _ _ x1 true W C0_2 l0_2 C1 l1 hf).mono ?_
  rintro e W' ⟨rfl, hd⟩
  have bel : Below W.heap.size W W' := hd
  exact ⟨_, rfl, _, _, _, [], _, [], hW', trodAll_mk1 (shut_bool Try.underlying4 _), (trodAll_cons_mk (Below.trod laidOut (by kernel_rfl) (of_decide_eq_true (by kernel_rfl)) k0 bel lt0) (trodAll_cons_mk (Below.trod laidOut (by kernel_rfl) (of_decide_eq_true (by kernel_rfl)) k1 bel lt1) trodAll_mk0)), rfl, bel.frame _, fun h => by cases h⟩
set_option maxRecDepth 100000 in
theorem lifted (os : Os) (started : os.Started) (H : Type) (enc : TypeId × Value → H) (F : Stop.Interp) :
    ReturnsInHanded {} Try.checked os 10 .any ((Rows.OpenSpec.upto Rows.wireMemorySpec).pre6 enc Try.prog Try.f10 Rows.wireMemoryUptoRow.domain false) (((Rows.OpenSpec.upto Rows.wireMemorySpec).at F).post enc Try.prog Try.f10 false true false false) := by
  refine returnsInHanded_of_cond (C := Try.checked) (s := Rows.OpenSpec.upto Rows.wireMemorySpec) (k := Rows.uptoSmall) rfl own started (by kernel_rfl) Try.func10
    (OpenSpec.witness (enc := enc) (C := Try.checked) (s := Rows.OpenSpec.upto Rows.wireMemorySpec) (k := Rows.uptoSmall) rfl false ⟨#[], #[.agg #[.int .i64 0, .string ByteArray.empty, .slice none 0 0], .slice none 0 0], []⟩ 8 (by kernel_rfl) (by kernel_rfl) (by kernel_rfl)
      (x := ([.agg [.lit (.int .i64 0), .lit (.string []), .nil], .nil], [], [])) (by kernel_rfl) rfl (by kernel_rfl)) ?_
  intro W base args ds gs before hval hW _ hk _
  exact contract H enc W base args ds gs before hval hW hk
theorem over : Rows.wireMemoryUptoRow.holds Try.pinned (Rows.OpenSpec.upto Rows.wireMemorySpec) :=
  OpenClaim.holds_of_cond 10 Try.f10 rfl rfl rfl rfl rfl rfl rfl ⟨rfl, rfl, rfl, rfl, rfl⟩ rfl rfl rfl rfl rfl (by kernel_rfl) Try.func10 (by kernel_rfl)
    (of_decide_eq_true (by kernel_rfl)) (by unfold Func.isWrapper; first | (rw [if_pos (by decide +kernel)]; kernel_rfl) | (rw [if_neg (by decide +kernel)]; exact ⟨rfl, rfl⟩))
    (fun os started H enc _ F => lifted os started H enc F)
end Go.Proofs.Ytmmnhokejadgaaa.wireMemoryUpto
namespace Go.Proofs.Ytmmnhokejadgaaa
/-- The row, under a short name. -/
theorem wireMemoryUpto_holds : Rows.WireMemoryUptoSaid := wireMemoryUpto.over
#print axioms wireMemoryUpto_holds
end Go.Proofs.Ytmmnhokejadgaaa
