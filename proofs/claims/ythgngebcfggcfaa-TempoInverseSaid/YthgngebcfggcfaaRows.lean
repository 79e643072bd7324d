/-
  No cell of these rows narrows 'for every input' (looked for: loops, veiled, ifaces, maps, wideKeys, modest, calm, conditions, laid).
  DERIVED. THE GIVEN ROWS OF THIS SEAT. 8 by the template 'for every input the law returns true; each argument reads behind the call as it read before'; 0 by the template 'total and deterministic' (their statements: YthgngebcfggcfaaTotals.lean).
  GIVEN WITH THE SEED: the statements are not yours to turn. If you find one false, say at which input.
  Laid BY PROGRAM, IN A SANDBOX (cutbox-rows.mjs): the forced cells as the released guide's own fill.sh prints them over the translation e25565c943d4130a… (all of the seat's roots in one cut). By AI agents, Wed Nov 11 2026. No macro, syntax, notation, axiom, sorry.
-/
import Derived.Test.YthgngebcfggcfaaChecked
import GoSem.Claim
import GoSem.ClaimJoined
import GoSem.ClaimMapViews
import Derived.JoinedTies
import Derived.KernelRfl
namespace Go.Proofs.Ythgngebcfggcfaa
/- THE CELL 'sum', in the pinned program and in every row, IS THE sha256 OF THE DUMP (.gsa) THAT YthgngebcfggcfaaProg.lean LOADS. Nothing in Lean hashes anything: it is a label: what it is worth is what the hold of that sum in a sandbox is worth. -/
noncomputable def Try.pinned : Pinned := { name := "ythgngebcfggcfaa", sum := "e25565c943d4130a8d8a831fa34ef143f6fba89d183e4797e080ed84a4825e81", checked := Try.checked }
namespace Rows
def none {H : Type} : Left H := { results := [], args := [] }

/-- 'dancestudiolaw14.TempoCheck': WHATEVER THE INPUT: true; the input reads as it did. -/
def tempoCheckSpec : ChangeSpec := { name := "tempoCheck", fn := fun _ => fun
  | [d1, d2] => { results := [.lit (.bool true)], args := [d1, d2] }
  | _ => none }
def tempoCheckRow : OpenClaim := { program := "ythgngebcfggcfaa", sum := "e25565c943d4130a8d8a831fa34ef143f6fba89d183e4797e080ed84a4825e81", func := "dancestudio/dancestudiolaw14.TempoCheck", spec := "tempoCheck", unfollowed := true, recurses := true, apart := false }
def TempoCheckSaid : Prop := tempoCheckRow.holds Try.pinned (OpenSpec.ofChange tempoCheckSpec)

/-- ITS FALSE NEIGHBOUR: 'it returns false'. Refute it at one input. -/
def tempoCheckWrong : ChangeSpec := { name := "tempoCheck", fn := fun _ => fun
  | [d1, d2] => { results := [.lit (.bool false)], args := [d1, d2] }
  | _ => none }
def TempoCheckWrongFalsely : Prop := tempoCheckRow.holds Try.pinned (OpenSpec.ofChange tempoCheckWrong)

/-- 'dancestudiolaw14.TempoWhen': WHATEVER THE INPUT: true; the input reads as it did. -/
def tempoWhenSpec : ChangeSpec := { name := "tempoWhen", fn := fun _ => fun
  | [d1, d2] => { results := [.lit (.bool true)], args := [d1, d2] }
  | _ => none }
def tempoWhenRow : OpenClaim := { program := "ythgngebcfggcfaa", sum := "e25565c943d4130a8d8a831fa34ef143f6fba89d183e4797e080ed84a4825e81", func := "dancestudio/dancestudiolaw14.TempoWhen", spec := "tempoWhen", unfollowed := true, recurses := true, apart := false }
def TempoWhenSaid : Prop := tempoWhenRow.holds Try.pinned (OpenSpec.ofChange tempoWhenSpec)

/-- ITS FALSE NEIGHBOUR: 'it returns false'. Refute it at one input. -/
def tempoWhenWrong : ChangeSpec := { name := "tempoWhen", fn := fun _ => fun
  | [d1, d2] => { results := [.lit (.bool false)], args := [d1, d2] }
  | _ => none }
def TempoWhenWrongFalsely : Prop := tempoWhenRow.holds Try.pinned (OpenSpec.ofChange tempoWhenWrong)

/-- 'dancestudiolaw14.TempoTick': WHATEVER THE INPUT: true; the input reads as it did. -/
def tempoTickSpec : ChangeSpec := { name := "tempoTick", fn := fun _ => fun
  | [d1, d2] => { results := [.lit (.bool true)], args := [d1, d2] }
  | _ => none }
def tempoTickRow : OpenClaim := { program := "ythgngebcfggcfaa", sum := "e25565c943d4130a8d8a831fa34ef143f6fba89d183e4797e080ed84a4825e81", func := "dancestudio/dancestudiolaw14.TempoTick", spec := "tempoTick", unfollowed := true, recurses := true, apart := false }
def TempoTickSaid : Prop := tempoTickRow.holds Try.pinned (OpenSpec.ofChange tempoTickSpec)

/-- ITS FALSE NEIGHBOUR: 'it returns false'. Refute it at one input. -/
def tempoTickWrong : ChangeSpec := { name := "tempoTick", fn := fun _ => fun
  | [d1, d2] => { results := [.lit (.bool false)], args := [d1, d2] }
  | _ => none }
def TempoTickWrongFalsely : Prop := tempoTickRow.holds Try.pinned (OpenSpec.ofChange tempoTickWrong)

/-- 'dancestudiolaw14.TempoRamp': WHATEVER THE INPUT: true; the input reads as it did. -/
def tempoRampSpec : ChangeSpec := { name := "tempoRamp", fn := fun _ => fun
  | [d1, d2] => { results := [.lit (.bool true)], args := [d1, d2] }
  | _ => none }
def tempoRampRow : OpenClaim := { program := "ythgngebcfggcfaa", sum := "e25565c943d4130a8d8a831fa34ef143f6fba89d183e4797e080ed84a4825e81", func := "dancestudio/dancestudiolaw14.TempoRamp", spec := "tempoRamp", unfollowed := true, recurses := true, apart := false }
def TempoRampSaid : Prop := tempoRampRow.holds Try.pinned (OpenSpec.ofChange tempoRampSpec)

/-- ITS FALSE NEIGHBOUR: 'it returns false'. Refute it at one input. -/
def tempoRampWrong : ChangeSpec := { name := "tempoRamp", fn := fun _ => fun
  | [d1, d2] => { results := [.lit (.bool false)], args := [d1, d2] }
  | _ => none }
def TempoRampWrongFalsely : Prop := tempoRampRow.holds Try.pinned (OpenSpec.ofChange tempoRampWrong)

/-- 'dancestudiolaw14.TempoForms': WHATEVER THE INPUT: true; the input reads as it did. -/
def tempoFormsSpec : ChangeSpec := { name := "tempoForms", fn := fun _ => fun
  | [d1, d2, d3] => { results := [.lit (.bool true)], args := [d1, d2, d3] }
  | _ => none }
def tempoFormsRow : OpenClaim := { program := "ythgngebcfggcfaa", sum := "e25565c943d4130a8d8a831fa34ef143f6fba89d183e4797e080ed84a4825e81", func := "dancestudio/dancestudiolaw14.TempoForms", spec := "tempoForms", unfollowed := true, recurses := true, apart := false }
def TempoFormsSaid : Prop := tempoFormsRow.holds Try.pinned (OpenSpec.ofChange tempoFormsSpec)

/-- ITS FALSE NEIGHBOUR: 'it returns false'. Refute it at one input. -/
def tempoFormsWrong : ChangeSpec := { name := "tempoForms", fn := fun _ => fun
  | [d1, d2, d3] => { results := [.lit (.bool false)], args := [d1, d2, d3] }
  | _ => none }
def TempoFormsWrongFalsely : Prop := tempoFormsRow.holds Try.pinned (OpenSpec.ofChange tempoFormsWrong)

/-- 'dancestudiolaw14.TempoInverse': WHATEVER THE INPUT: true; the input reads as it did. -/
def tempoInverseSpec : ChangeSpec := { name := "tempoInverse", fn := fun _ => fun
  | [d1, d2, d3] => { results := [.lit (.bool true)], args := [d1, d2, d3] }
  | _ => none }
def tempoInverseRow : OpenClaim := { program := "ythgngebcfggcfaa", sum := "e25565c943d4130a8d8a831fa34ef143f6fba89d183e4797e080ed84a4825e81", func := "dancestudio/dancestudiolaw14.TempoInverse", spec := "tempoInverse", unfollowed := true, recurses := true, apart := false }
def TempoInverseSaid : Prop := tempoInverseRow.holds Try.pinned (OpenSpec.ofChange tempoInverseSpec)

/-- ITS FALSE NEIGHBOUR: 'it returns false'. Refute it at one input. -/
def tempoInverseWrong : ChangeSpec := { name := "tempoInverse", fn := fun _ => fun
  | [d1, d2, d3] => { results := [.lit (.bool false)], args := [d1, d2, d3] }
  | _ => none }
def TempoInverseWrongFalsely : Prop := tempoInverseRow.holds Try.pinned (OpenSpec.ofChange tempoInverseWrong)

/-- 'dancestudiolaw14.TempoSame': WHATEVER THE INPUT: true; the input reads as it did. -/
def tempoSameSpec : ChangeSpec := { name := "tempoSame", fn := fun _ => fun
  | [d1, d2] => { results := [.lit (.bool true)], args := [d1, d2] }
  | _ => none }
def tempoSameRow : OpenClaim := { program := "ythgngebcfggcfaa", sum := "e25565c943d4130a8d8a831fa34ef143f6fba89d183e4797e080ed84a4825e81", func := "dancestudio/dancestudiolaw14.TempoSame", spec := "tempoSame", unfollowed := true, recurses := true, apart := false }
def TempoSameSaid : Prop := tempoSameRow.holds Try.pinned (OpenSpec.ofChange tempoSameSpec)

/-- ITS FALSE NEIGHBOUR: 'it returns false'. Refute it at one input. -/
def tempoSameWrong : ChangeSpec := { name := "tempoSame", fn := fun _ => fun
  | [d1, d2] => { results := [.lit (.bool false)], args := [d1, d2] }
  | _ => none }
def TempoSameWrongFalsely : Prop := tempoSameRow.holds Try.pinned (OpenSpec.ofChange tempoSameWrong)

/-- 'dancestudiolaw14.TempoTimes': WHATEVER THE INPUT: true; the input reads as it did. -/
def tempoTimesSpec : ChangeSpec := { name := "tempoTimes", fn := fun _ => fun
  | [d1, d2, d3] => { results := [.lit (.bool true)], args := [d1, d2, d3] }
  | _ => none }
def tempoTimesRow : OpenClaim := { program := "ythgngebcfggcfaa", sum := "e25565c943d4130a8d8a831fa34ef143f6fba89d183e4797e080ed84a4825e81", func := "dancestudio/dancestudiolaw14.TempoTimes", spec := "tempoTimes", unfollowed := true, recurses := true, apart := false }
def TempoTimesSaid : Prop := tempoTimesRow.holds Try.pinned (OpenSpec.ofChange tempoTimesSpec)

/-- ITS FALSE NEIGHBOUR: 'it returns false'. Refute it at one input. -/
def tempoTimesWrong : ChangeSpec := { name := "tempoTimes", fn := fun _ => fun
  | [d1, d2, d3] => { results := [.lit (.bool false)], args := [d1, d2, d3] }
  | _ => none }
def TempoTimesWrongFalsely : Prop := tempoTimesRow.holds Try.pinned (OpenSpec.ofChange tempoTimesWrong)

/- THE SECOND FORM. 'bulk': how many values and letters a reading holds, each counted each time it is reached (what is shared counts as often as it is met; a slice's spare places count too). A statement '..UptoSaid' is the law's where the arguments, and the package variables that the reading takes, are together of bulk at most 1048576: NARROWER than '..Said'. Prove '..Said' where nothing that the law and all that it calls make is longer than what came in: it says more and counts as full. Else prove '..UptoSaid'. A law counts once. -/
mutual
def uptoBulk {H : Type} : DataW H → Nat
  | .lit (.string bytes) => bytes.length + 1
  | .lit _ => 1
  | .nil => 1
  | .ptr d => uptoBulk d + 1
  | .slice elems spare => uptoBulkAll elems + uptoBulkAll spare + 1
  | .agg parts => uptoBulkAll parts + 1
  | .iface _ d => uptoBulk d + 1
  | .map entries => uptoBulkEntries entries + 1
  | .held _ => 1
def uptoBulkAll {H : Type} : List (DataW H) → Nat
  | [] => 0
  | d :: r => uptoBulk d + uptoBulkAll r
def uptoBulkEntries {H : Type} : List (Lit × DataW H) → Nat
  | [] => 0
  | x :: r => uptoBulkEntry x + uptoBulkEntries r
def uptoBulkEntry {H : Type} : Lit × DataW H → Nat
  | (.string bytes, d) => bytes.length + uptoBulk d + 1
  | (_, d) => uptoBulk d + 1
 end
def uptoSmall : (H : Type) → List (DataW H) → Bool := fun _ ds => decide (uptoBulkAll ds ≤ 1048576)
def OpenSpec.upto (s : _root_.Go.ChangeSpec) : _root_.Go.OpenSpec := { _root_.Go.OpenSpec.ofChange s with cond := some uptoSmall }

/-- 'dancestudiolaw14.TempoCheck', WHERE WHAT IT READS IS OF BULK AT MOST 1048576: true; the input reads as it did. -/
def tempoCheckUptoRow : OpenClaim := { program := "ythgngebcfggcfaa", sum := "e25565c943d4130a8d8a831fa34ef143f6fba89d183e4797e080ed84a4825e81", func := "dancestudio/dancestudiolaw14.TempoCheck", spec := "tempoCheck", unfollowed := true, recurses := true, apart := false, narrowed := true }
def TempoCheckUptoSaid : Prop := tempoCheckUptoRow.holds Try.pinned (OpenSpec.upto tempoCheckSpec)

/-- 'dancestudiolaw14.TempoWhen', WHERE WHAT IT READS IS OF BULK AT MOST 1048576: true; the input reads as it did. -/
def tempoWhenUptoRow : OpenClaim := { program := "ythgngebcfggcfaa", sum := "e25565c943d4130a8d8a831fa34ef143f6fba89d183e4797e080ed84a4825e81", func := "dancestudio/dancestudiolaw14.TempoWhen", spec := "tempoWhen", unfollowed := true, recurses := true, apart := false, narrowed := true }
def TempoWhenUptoSaid : Prop := tempoWhenUptoRow.holds Try.pinned (OpenSpec.upto tempoWhenSpec)

/-- 'dancestudiolaw14.TempoTick', WHERE WHAT IT READS IS OF BULK AT MOST 1048576: true; the input reads as it did. -/
def tempoTickUptoRow : OpenClaim := { program := "ythgngebcfggcfaa", sum := "e25565c943d4130a8d8a831fa34ef143f6fba89d183e4797e080ed84a4825e81", func := "dancestudio/dancestudiolaw14.TempoTick", spec := "tempoTick", unfollowed := true, recurses := true, apart := false, narrowed := true }
def TempoTickUptoSaid : Prop := tempoTickUptoRow.holds Try.pinned (OpenSpec.upto tempoTickSpec)

/-- 'dancestudiolaw14.TempoRamp', WHERE WHAT IT READS IS OF BULK AT MOST 1048576: true; the input reads as it did. -/
def tempoRampUptoRow : OpenClaim := { program := "ythgngebcfggcfaa", sum := "e25565c943d4130a8d8a831fa34ef143f6fba89d183e4797e080ed84a4825e81", func := "dancestudio/dancestudiolaw14.TempoRamp", spec := "tempoRamp", unfollowed := true, recurses := true, apart := false, narrowed := true }
def TempoRampUptoSaid : Prop := tempoRampUptoRow.holds Try.pinned (OpenSpec.upto tempoRampSpec)

/-- 'dancestudiolaw14.TempoForms', WHERE WHAT IT READS IS OF BULK AT MOST 1048576: true; the input reads as it did. -/
def tempoFormsUptoRow : OpenClaim := { program := "ythgngebcfggcfaa", sum := "e25565c943d4130a8d8a831fa34ef143f6fba89d183e4797e080ed84a4825e81", func := "dancestudio/dancestudiolaw14.TempoForms", spec := "tempoForms", unfollowed := true, recurses := true, apart := false, narrowed := true }
def TempoFormsUptoSaid : Prop := tempoFormsUptoRow.holds Try.pinned (OpenSpec.upto tempoFormsSpec)

/-- 'dancestudiolaw14.TempoInverse', WHERE WHAT IT READS IS OF BULK AT MOST 1048576: true; the input reads as it did. -/
def tempoInverseUptoRow : OpenClaim := { program := "ythgngebcfggcfaa", sum := "e25565c943d4130a8d8a831fa34ef143f6fba89d183e4797e080ed84a4825e81", func := "dancestudio/dancestudiolaw14.TempoInverse", spec := "tempoInverse", unfollowed := true, recurses := true, apart := false, narrowed := true }
def TempoInverseUptoSaid : Prop := tempoInverseUptoRow.holds Try.pinned (OpenSpec.upto tempoInverseSpec)

/-- 'dancestudiolaw14.TempoSame', WHERE WHAT IT READS IS OF BULK AT MOST 1048576: true; the input reads as it did. -/
def tempoSameUptoRow : OpenClaim := { program := "ythgngebcfggcfaa", sum := "e25565c943d4130a8d8a831fa34ef143f6fba89d183e4797e080ed84a4825e81", func := "dancestudio/dancestudiolaw14.TempoSame", spec := "tempoSame", unfollowed := true, recurses := true, apart := false, narrowed := true }
def TempoSameUptoSaid : Prop := tempoSameUptoRow.holds Try.pinned (OpenSpec.upto tempoSameSpec)

/-- 'dancestudiolaw14.TempoTimes', WHERE WHAT IT READS IS OF BULK AT MOST 1048576: true; the input reads as it did. -/
def tempoTimesUptoRow : OpenClaim := { program := "ythgngebcfggcfaa", sum := "e25565c943d4130a8d8a831fa34ef143f6fba89d183e4797e080ed84a4825e81", func := "dancestudio/dancestudiolaw14.TempoTimes", spec := "tempoTimes", unfollowed := true, recurses := true, apart := false, narrowed := true }
def TempoTimesUptoSaid : Prop := tempoTimesUptoRow.holds Try.pinned (OpenSpec.upto tempoTimesSpec)

end Rows
end Go.Proofs.Ythgngebcfggcfaa
