/-
  No cell of these rows narrows 'for every input' (looked for: loops, veiled, ifaces, maps, wideKeys, modest, calm, conditions, laid).
  DERIVED. THE GIVEN ROWS OF THIS SEAT. 8 by the template 'for every input the law returns true; each argument reads behind the call as it read before'; 0 by the template 'total and deterministic' (their statements: YtobehfghepbhbaaTotals.lean).
  GIVEN WITH THE SEED: the statements are not yours to turn. If you find one false, say at which input.
  Laid BY PROGRAM, IN A SANDBOX (cutbox-rows.mjs): the forced cells as the released guide's own fill.sh prints them over the translation d54faacc4c4c9af3… (all of the seat's roots in one cut). By AI agents, Wed Nov 11 2026. No macro, syntax, notation, axiom, sorry.
-/
import Derived.Test.YtobehfghepbhbaaChecked
import GoSem.Claim
import GoSem.ClaimJoined
import GoSem.ClaimMapViews
import Derived.JoinedTies
import Derived.KernelRfl
namespace Go.Proofs.Ytobehfghepbhbaa
/- THE CELL 'sum', in the pinned program and in every row, IS THE sha256 OF THE DUMP (.gsa) THAT YtobehfghepbhbaaProg.lean LOADS. Nothing in Lean hashes anything: it is a label: what it is worth is what the hold of that sum in a sandbox is worth. -/
noncomputable def Try.pinned : Pinned := { name := "ytobehfghepbhbaa", sum := "d54faacc4c4c9af3585892a6f60506ad17cbfdbd93c0d66db19af233684cb1ad", checked := Try.checked }
namespace Rows
def none {H : Type} : Left H := { results := [], args := [] }

/-- 'dancestudiolaw08.CrcSum': WHATEVER THE INPUT: true; the input reads as it did. -/
def crcSumSpec : ChangeSpec := { name := "crcSum", fn := fun _ => fun
  | [d1, d2] => { results := [.lit (.bool true)], args := [d1, d2] }
  | _ => none }
def crcSumRow : OpenClaim := { program := "ytobehfghepbhbaa", sum := "d54faacc4c4c9af3585892a6f60506ad17cbfdbd93c0d66db19af233684cb1ad", func := "dancestudio/dancestudiolaw08.CrcSum", spec := "crcSum", apart := false }
def CrcSumSaid : Prop := crcSumRow.holds Try.pinned (OpenSpec.ofChange crcSumSpec)

/-- ITS FALSE NEIGHBOUR: 'it returns false'. Refute it at one input. -/
def crcSumWrong : ChangeSpec := { name := "crcSum", fn := fun _ => fun
  | [d1, d2] => { results := [.lit (.bool false)], args := [d1, d2] }
  | _ => none }
def CrcSumWrongFalsely : Prop := crcSumRow.holds Try.pinned (OpenSpec.ofChange crcSumWrong)

/-- 'dancestudiolaw08.CrcExtend': WHATEVER THE INPUT: true; the input reads as it did. -/
def crcExtendSpec : ChangeSpec := { name := "crcExtend", fn := fun _ => fun
  | [d1, d2, d3] => { results := [.lit (.bool true)], args := [d1, d2, d3] }
  | _ => none }
def crcExtendRow : OpenClaim := { program := "ytobehfghepbhbaa", sum := "d54faacc4c4c9af3585892a6f60506ad17cbfdbd93c0d66db19af233684cb1ad", func := "dancestudio/dancestudiolaw08.CrcExtend", spec := "crcExtend", apart := false }
def CrcExtendSaid : Prop := crcExtendRow.holds Try.pinned (OpenSpec.ofChange crcExtendSpec)

/-- ITS FALSE NEIGHBOUR: 'it returns false'. Refute it at one input. -/
def crcExtendWrong : ChangeSpec := { name := "crcExtend", fn := fun _ => fun
  | [d1, d2, d3] => { results := [.lit (.bool false)], args := [d1, d2, d3] }
  | _ => none }
def CrcExtendWrongFalsely : Prop := crcExtendRow.holds Try.pinned (OpenSpec.ofChange crcExtendWrong)

/-- 'dancestudiolaw08.CrcThree': WHATEVER THE INPUT: true; the input reads as it did. -/
def crcThreeSpec : ChangeSpec := { name := "crcThree", fn := fun _ => fun
  | [d1, d2, d3] => { results := [.lit (.bool true)], args := [d1, d2, d3] }
  | _ => none }
def crcThreeRow : OpenClaim := { program := "ytobehfghepbhbaa", sum := "d54faacc4c4c9af3585892a6f60506ad17cbfdbd93c0d66db19af233684cb1ad", func := "dancestudio/dancestudiolaw08.CrcThree", spec := "crcThree", apart := false }
def CrcThreeSaid : Prop := crcThreeRow.holds Try.pinned (OpenSpec.ofChange crcThreeSpec)

/-- ITS FALSE NEIGHBOUR: 'it returns false'. Refute it at one input. -/
def crcThreeWrong : ChangeSpec := { name := "crcThree", fn := fun _ => fun
  | [d1, d2, d3] => { results := [.lit (.bool false)], args := [d1, d2, d3] }
  | _ => none }
def CrcThreeWrongFalsely : Prop := crcThreeRow.holds Try.pinned (OpenSpec.ofChange crcThreeWrong)

/-- 'dancestudiolaw08.CrcFrame': WHATEVER THE INPUT: true; the input reads as it did. -/
def crcFrameSpec : ChangeSpec := { name := "crcFrame", fn := fun _ => fun
  | [d] => { results := [.lit (.bool true)], args := [d] }
  | _ => none }
def crcFrameRow : OpenClaim := { program := "ytobehfghepbhbaa", sum := "d54faacc4c4c9af3585892a6f60506ad17cbfdbd93c0d66db19af233684cb1ad", func := "dancestudio/dancestudiolaw08.CrcFrame", spec := "crcFrame", apart := false }
def CrcFrameSaid : Prop := crcFrameRow.holds Try.pinned (OpenSpec.ofChange crcFrameSpec)

/-- ITS FALSE NEIGHBOUR: 'it returns false'. Refute it at one input. -/
def crcFrameWrong : ChangeSpec := { name := "crcFrame", fn := fun _ => fun
  | [d] => { results := [.lit (.bool false)], args := [d] }
  | _ => none }
def CrcFrameWrongFalsely : Prop := crcFrameRow.holds Try.pinned (OpenSpec.ofChange crcFrameWrong)

/-- 'dancestudiolaw08.CrcFull': WHATEVER THE INPUT: true; the input reads as it did. -/
def crcFullSpec : ChangeSpec := { name := "crcFull", fn := fun _ => fun
  | [d1, d2] => { results := [.lit (.bool true)], args := [d1, d2] }
  | _ => none }
def crcFullRow : OpenClaim := { program := "ytobehfghepbhbaa", sum := "d54faacc4c4c9af3585892a6f60506ad17cbfdbd93c0d66db19af233684cb1ad", func := "dancestudio/dancestudiolaw08.CrcFull", spec := "crcFull", apart := false }
def CrcFullSaid : Prop := crcFullRow.holds Try.pinned (OpenSpec.ofChange crcFullSpec)

/-- ITS FALSE NEIGHBOUR: 'it returns false'. Refute it at one input. -/
def crcFullWrong : ChangeSpec := { name := "crcFull", fn := fun _ => fun
  | [d1, d2] => { results := [.lit (.bool false)], args := [d1, d2] }
  | _ => none }
def CrcFullWrongFalsely : Prop := crcFullRow.holds Try.pinned (OpenSpec.ofChange crcFullWrong)

/-- 'dancestudiolaw08.CrcOpen': WHATEVER THE INPUT: true; the input reads as it did. -/
def crcOpenSpec : ChangeSpec := { name := "crcOpen", fn := fun _ => fun
  | [d] => { results := [.lit (.bool true)], args := [d] }
  | _ => none }
def crcOpenRow : OpenClaim := { program := "ytobehfghepbhbaa", sum := "d54faacc4c4c9af3585892a6f60506ad17cbfdbd93c0d66db19af233684cb1ad", func := "dancestudio/dancestudiolaw08.CrcOpen", spec := "crcOpen", apart := false }
def CrcOpenSaid : Prop := crcOpenRow.holds Try.pinned (OpenSpec.ofChange crcOpenSpec)

/-- ITS FALSE NEIGHBOUR: 'it returns false'. Refute it at one input. -/
def crcOpenWrong : ChangeSpec := { name := "crcOpen", fn := fun _ => fun
  | [d] => { results := [.lit (.bool false)], args := [d] }
  | _ => none }
def CrcOpenWrongFalsely : Prop := crcOpenRow.holds Try.pinned (OpenSpec.ofChange crcOpenWrong)

/-- 'dancestudiolaw08.CrcFrames': WHATEVER THE INPUT: true; the input reads as it did. -/
def crcFramesSpec : ChangeSpec := { name := "crcFrames", fn := fun _ => fun
  | [d1, d2, d3, d4] => { results := [.lit (.bool true)], args := [d1, d2, d3, d4] }
  | _ => none }
def crcFramesRow : OpenClaim := { program := "ytobehfghepbhbaa", sum := "d54faacc4c4c9af3585892a6f60506ad17cbfdbd93c0d66db19af233684cb1ad", func := "dancestudio/dancestudiolaw08.CrcFrames", spec := "crcFrames", apart := false }
def CrcFramesSaid : Prop := crcFramesRow.holds Try.pinned (OpenSpec.ofChange crcFramesSpec)

/-- ITS FALSE NEIGHBOUR: 'it returns false'. Refute it at one input. -/
def crcFramesWrong : ChangeSpec := { name := "crcFrames", fn := fun _ => fun
  | [d1, d2, d3, d4] => { results := [.lit (.bool false)], args := [d1, d2, d3, d4] }
  | _ => none }
def CrcFramesWrongFalsely : Prop := crcFramesRow.holds Try.pinned (OpenSpec.ofChange crcFramesWrong)

/-- 'dancestudiolaw08.CrcCuts': WHATEVER THE INPUT: true; the input reads as it did. -/
def crcCutsSpec : ChangeSpec := { name := "crcCuts", fn := fun _ => fun
  | [d1, d2] => { results := [.lit (.bool true)], args := [d1, d2] }
  | _ => none }
def crcCutsRow : OpenClaim := { program := "ytobehfghepbhbaa", sum := "d54faacc4c4c9af3585892a6f60506ad17cbfdbd93c0d66db19af233684cb1ad", func := "dancestudio/dancestudiolaw08.CrcCuts", spec := "crcCuts", apart := false }
def CrcCutsSaid : Prop := crcCutsRow.holds Try.pinned (OpenSpec.ofChange crcCutsSpec)

/-- ITS FALSE NEIGHBOUR: 'it returns false'. Refute it at one input. -/
def crcCutsWrong : ChangeSpec := { name := "crcCuts", fn := fun _ => fun
  | [d1, d2] => { results := [.lit (.bool false)], args := [d1, d2] }
  | _ => none }
def CrcCutsWrongFalsely : Prop := crcCutsRow.holds Try.pinned (OpenSpec.ofChange crcCutsWrong)

/- THE SECOND FORM. 'bulk': how many values and letters a reading holds, each counted each time it is reached (what is shared counts as often as it is met; a slice's spare places count too). A statement '..UptoSaid' is the law's where the arguments, and the package variables that the reading takes, are together of bulk at most 1048576: NARROWER than '..Said'. Prove '..Said' where nothing that the law and all that it calls make is longer than what came in: it says more and counts as full. Else prove '..UptoSaid'. A law counts once. -/
mutual
def uptoBulk {H : Type} : DataW H → Nat
  | .lit (.string bytes) => bytes.length + 1
  | .lit _ => 1
  | .nil => 1
  | .ptr d => uptoBulk d + 1
  | .slice elems spare => uptoBulkAll elems + uptoBulkAll spare + 1
  | .agg parts => uptoBulkAll parts + 1
  | .iface _ d => uptoBulk d + 1
  | .map entries => uptoBulkEntries entries + 1
  | .held _ => 1
def uptoBulkAll {H : Type} : List (DataW H) → Nat
  | [] => 0
  | d :: r => uptoBulk d + uptoBulkAll r
def uptoBulkEntries {H : Type} : List (Lit × DataW H) → Nat
  | [] => 0
  | x :: r => uptoBulkEntry x + uptoBulkEntries r
def uptoBulkEntry {H : Type} : Lit × DataW H → Nat
  | (.string bytes, d) => bytes.length + uptoBulk d + 1
  | (_, d) => uptoBulk d + 1
 end
def uptoSmall : (H : Type) → List (DataW H) → Bool := fun _ ds => decide (uptoBulkAll ds ≤ 1048576)
def OpenSpec.upto (s : _root_.Go.ChangeSpec) : _root_.Go.OpenSpec := { _root_.Go.OpenSpec.ofChange s with cond := some uptoSmall }

/-- 'dancestudiolaw08.CrcSum', WHERE WHAT IT READS IS OF BULK AT MOST 1048576: true; the input reads as it did. -/
def crcSumUptoRow : OpenClaim := { program := "ytobehfghepbhbaa", sum := "d54faacc4c4c9af3585892a6f60506ad17cbfdbd93c0d66db19af233684cb1ad", func := "dancestudio/dancestudiolaw08.CrcSum", spec := "crcSum", apart := false, narrowed := true }
def CrcSumUptoSaid : Prop := crcSumUptoRow.holds Try.pinned (OpenSpec.upto crcSumSpec)

/-- 'dancestudiolaw08.CrcExtend', WHERE WHAT IT READS IS OF BULK AT MOST 1048576: true; the input reads as it did. -/
def crcExtendUptoRow : OpenClaim := { program := "ytobehfghepbhbaa", sum := "d54faacc4c4c9af3585892a6f60506ad17cbfdbd93c0d66db19af233684cb1ad", func := "dancestudio/dancestudiolaw08.CrcExtend", spec := "crcExtend", apart := false, narrowed := true }
def CrcExtendUptoSaid : Prop := crcExtendUptoRow.holds Try.pinned (OpenSpec.upto crcExtendSpec)

/-- 'dancestudiolaw08.CrcThree', WHERE WHAT IT READS IS OF BULK AT MOST 1048576: true; the input reads as it did. -/
def crcThreeUptoRow : OpenClaim := { program := "ytobehfghepbhbaa", sum := "d54faacc4c4c9af3585892a6f60506ad17cbfdbd93c0d66db19af233684cb1ad", func := "dancestudio/dancestudiolaw08.CrcThree", spec := "crcThree", apart := false, narrowed := true }
def CrcThreeUptoSaid : Prop := crcThreeUptoRow.holds Try.pinned (OpenSpec.upto crcThreeSpec)

/-- 'dancestudiolaw08.CrcFrame', WHERE WHAT IT READS IS OF BULK AT MOST 1048576: true; the input reads as it did. -/
def crcFrameUptoRow : OpenClaim := { program := "ytobehfghepbhbaa", sum := "d54faacc4c4c9af3585892a6f60506ad17cbfdbd93c0d66db19af233684cb1ad", func := "dancestudio/dancestudiolaw08.CrcFrame", spec := "crcFrame", apart := false, narrowed := true }
def CrcFrameUptoSaid : Prop := crcFrameUptoRow.holds Try.pinned (OpenSpec.upto crcFrameSpec)

/-- 'dancestudiolaw08.CrcFull', WHERE WHAT IT READS IS OF BULK AT MOST 1048576: true; the input reads as it did. -/
def crcFullUptoRow : OpenClaim := { program := "ytobehfghepbhbaa", sum := "d54faacc4c4c9af3585892a6f60506ad17cbfdbd93c0d66db19af233684cb1ad", func := "dancestudio/dancestudiolaw08.CrcFull", spec := "crcFull", apart := false, narrowed := true }
def CrcFullUptoSaid : Prop := crcFullUptoRow.holds Try.pinned (OpenSpec.upto crcFullSpec)

/-- 'dancestudiolaw08.CrcOpen', WHERE WHAT IT READS IS OF BULK AT MOST 1048576: true; the input reads as it did. -/
def crcOpenUptoRow : OpenClaim := { program := "ytobehfghepbhbaa", sum := "d54faacc4c4c9af3585892a6f60506ad17cbfdbd93c0d66db19af233684cb1ad", func := "dancestudio/dancestudiolaw08.CrcOpen", spec := "crcOpen", apart := false, narrowed := true }
def CrcOpenUptoSaid : Prop := crcOpenUptoRow.holds Try.pinned (OpenSpec.upto crcOpenSpec)

/-- 'dancestudiolaw08.CrcFrames', WHERE WHAT IT READS IS OF BULK AT MOST 1048576: true; the input reads as it did. -/
def crcFramesUptoRow : OpenClaim := { program := "ytobehfghepbhbaa", sum := "d54faacc4c4c9af3585892a6f60506ad17cbfdbd93c0d66db19af233684cb1ad", func := "dancestudio/dancestudiolaw08.CrcFrames", spec := "crcFrames", apart := false, narrowed := true }
def CrcFramesUptoSaid : Prop := crcFramesUptoRow.holds Try.pinned (OpenSpec.upto crcFramesSpec)

/-- 'dancestudiolaw08.CrcCuts', WHERE WHAT IT READS IS OF BULK AT MOST 1048576: true; the input reads as it did. -/
def crcCutsUptoRow : OpenClaim := { program := "ytobehfghepbhbaa", sum := "d54faacc4c4c9af3585892a6f60506ad17cbfdbd93c0d66db19af233684cb1ad", func := "dancestudio/dancestudiolaw08.CrcCuts", spec := "crcCuts", apart := false, narrowed := true }
def CrcCutsUptoSaid : Prop := crcCutsUptoRow.holds Try.pinned (OpenSpec.upto crcCutsSpec)

end Rows
end Go.Proofs.Ytobehfghepbhbaa
