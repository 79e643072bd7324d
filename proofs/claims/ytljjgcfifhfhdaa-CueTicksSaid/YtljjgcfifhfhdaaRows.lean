/-
  No cell of these rows narrows 'for every input' (looked for: loops, veiled, ifaces, maps, wideKeys, modest, calm, conditions, laid).
  DERIVED. THE GIVEN ROWS OF THIS SEAT. 7 by the template 'for every input the law returns true; each argument reads behind the call as it read before'; 0 by the template 'total and deterministic' (their statements: YtljjgcfifhfhdaaTotals.lean).
  GIVEN WITH THE SEED: the statements are not yours to turn. If you find one false, say at which input.
  Laid BY PROGRAM, IN A SANDBOX (cutbox-rows.mjs): the forced cells as the released guide's own fill.sh prints them over the translation c8416baf39bdc84d… (all of the seat's roots in one cut). By AI agents, Wed Nov 11 2026. No macro, syntax, notation, axiom, sorry.
-/
import Derived.Test.YtljjgcfifhfhdaaChecked
import GoSem.Claim
import GoSem.ClaimJoined
import GoSem.ClaimMapViews
import Derived.JoinedTies
import Derived.KernelRfl
namespace Go.Proofs.Ytljjgcfifhfhdaa
/- THE CELL 'sum', in the pinned program and in every row, IS THE sha256 OF THE DUMP (.gsa) THAT YtljjgcfifhfhdaaProg.lean LOADS. Nothing in Lean hashes anything: it is a label: what it is worth is what the hold of that sum in a sandbox is worth. -/
noncomputable def Try.pinned : Pinned := { name := "ytljjgcfifhfhdaa", sum := "c8416baf39bdc84d4cbdc700db33290c51c5c44d6769f4259f85ffb8f0074de8", checked := Try.checked }
namespace Rows
def none {H : Type} : Left H := { results := [], args := [] }

/-- 'dancestudiolaw15.CueChecks': WHATEVER THE INPUT: true; the input reads as it did. -/
def cueChecksSpec : ChangeSpec := { name := "cueChecks", fn := fun _ => fun
  | [d] => { results := [.lit (.bool true)], args := [d] }
  | _ => none }
def cueChecksRow : OpenClaim := { program := "ytljjgcfifhfhdaa", sum := "c8416baf39bdc84d4cbdc700db33290c51c5c44d6769f4259f85ffb8f0074de8", func := "dancestudio/dancestudiolaw15.CueChecks", spec := "cueChecks", unfollowed := true, recurses := true, apart := false }
def CueChecksSaid : Prop := cueChecksRow.holds Try.pinned (OpenSpec.ofChange cueChecksSpec)

/-- ITS FALSE NEIGHBOUR: 'it returns false'. Refute it at one input. -/
def cueChecksWrong : ChangeSpec := { name := "cueChecks", fn := fun _ => fun
  | [d] => { results := [.lit (.bool false)], args := [d] }
  | _ => none }
def CueChecksWrongFalsely : Prop := cueChecksRow.holds Try.pinned (OpenSpec.ofChange cueChecksWrong)

/-- 'dancestudiolaw15.CueFits': WHATEVER THE INPUT: true; the input reads as it did. -/
def cueFitsSpec : ChangeSpec := { name := "cueFits", fn := fun _ => fun
  | [d] => { results := [.lit (.bool true)], args := [d] }
  | _ => none }
def cueFitsRow : OpenClaim := { program := "ytljjgcfifhfhdaa", sum := "c8416baf39bdc84d4cbdc700db33290c51c5c44d6769f4259f85ffb8f0074de8", func := "dancestudio/dancestudiolaw15.CueFits", spec := "cueFits", unfollowed := true, recurses := true, apart := false }
def CueFitsSaid : Prop := cueFitsRow.holds Try.pinned (OpenSpec.ofChange cueFitsSpec)

/-- ITS FALSE NEIGHBOUR: 'it returns false'. Refute it at one input. -/
def cueFitsWrong : ChangeSpec := { name := "cueFits", fn := fun _ => fun
  | [d] => { results := [.lit (.bool false)], args := [d] }
  | _ => none }
def CueFitsWrongFalsely : Prop := cueFitsRow.holds Try.pinned (OpenSpec.ofChange cueFitsWrong)

/-- 'dancestudiolaw15.CueDrifts': WHATEVER THE INPUT: true; the input reads as it did. -/
def cueDriftsSpec : ChangeSpec := { name := "cueDrifts", fn := fun _ => fun
  | [d1, d2] => { results := [.lit (.bool true)], args := [d1, d2] }
  | _ => none }
def cueDriftsRow : OpenClaim := { program := "ytljjgcfifhfhdaa", sum := "c8416baf39bdc84d4cbdc700db33290c51c5c44d6769f4259f85ffb8f0074de8", func := "dancestudio/dancestudiolaw15.CueDrifts", spec := "cueDrifts", unfollowed := true, recurses := true, apart := false }
def CueDriftsSaid : Prop := cueDriftsRow.holds Try.pinned (OpenSpec.ofChange cueDriftsSpec)

/-- ITS FALSE NEIGHBOUR: 'it returns false'. Refute it at one input. -/
def cueDriftsWrong : ChangeSpec := { name := "cueDrifts", fn := fun _ => fun
  | [d1, d2] => { results := [.lit (.bool false)], args := [d1, d2] }
  | _ => none }
def CueDriftsWrongFalsely : Prop := cueDriftsRow.holds Try.pinned (OpenSpec.ofChange cueDriftsWrong)

/-- 'dancestudiolaw15.CueExact': WHATEVER THE INPUT: true; the input reads as it did. -/
def cueExactSpec : ChangeSpec := { name := "cueExact", fn := fun _ => fun
  | [d] => { results := [.lit (.bool true)], args := [d] }
  | _ => none }
def cueExactRow : OpenClaim := { program := "ytljjgcfifhfhdaa", sum := "c8416baf39bdc84d4cbdc700db33290c51c5c44d6769f4259f85ffb8f0074de8", func := "dancestudio/dancestudiolaw15.CueExact", spec := "cueExact", unfollowed := true, recurses := true, apart := false }
def CueExactSaid : Prop := cueExactRow.holds Try.pinned (OpenSpec.ofChange cueExactSpec)

/-- ITS FALSE NEIGHBOUR: 'it returns false'. Refute it at one input. -/
def cueExactWrong : ChangeSpec := { name := "cueExact", fn := fun _ => fun
  | [d] => { results := [.lit (.bool false)], args := [d] }
  | _ => none }
def CueExactWrongFalsely : Prop := cueExactRow.holds Try.pinned (OpenSpec.ofChange cueExactWrong)

/-- 'dancestudiolaw15.CueTicks': WHATEVER THE INPUT: true; the input reads as it did. -/
def cueTicksSpec : ChangeSpec := { name := "cueTicks", fn := fun _ => fun
  | [d1, d2] => { results := [.lit (.bool true)], args := [d1, d2] }
  | _ => none }
def cueTicksRow : OpenClaim := { program := "ytljjgcfifhfhdaa", sum := "c8416baf39bdc84d4cbdc700db33290c51c5c44d6769f4259f85ffb8f0074de8", func := "dancestudio/dancestudiolaw15.CueTicks", spec := "cueTicks", unfollowed := true, recurses := true, apart := false }
def CueTicksSaid : Prop := cueTicksRow.holds Try.pinned (OpenSpec.ofChange cueTicksSpec)

/-- ITS FALSE NEIGHBOUR: 'it returns false'. Refute it at one input. -/
def cueTicksWrong : ChangeSpec := { name := "cueTicks", fn := fun _ => fun
  | [d1, d2] => { results := [.lit (.bool false)], args := [d1, d2] }
  | _ => none }
def CueTicksWrongFalsely : Prop := cueTicksRow.holds Try.pinned (OpenSpec.ofChange cueTicksWrong)

/-- 'dancestudiolaw15.CueShifts': WHATEVER THE INPUT: true; the input reads as it did. -/
def cueShiftsSpec : ChangeSpec := { name := "cueShifts", fn := fun _ => fun
  | [d1, d2, d3] => { results := [.lit (.bool true)], args := [d1, d2, d3] }
  | _ => none }
def cueShiftsRow : OpenClaim := { program := "ytljjgcfifhfhdaa", sum := "c8416baf39bdc84d4cbdc700db33290c51c5c44d6769f4259f85ffb8f0074de8", func := "dancestudio/dancestudiolaw15.CueShifts", spec := "cueShifts", unfollowed := true, recurses := true, apart := false }
def CueShiftsSaid : Prop := cueShiftsRow.holds Try.pinned (OpenSpec.ofChange cueShiftsSpec)

/-- ITS FALSE NEIGHBOUR: 'it returns false'. Refute it at one input. -/
def cueShiftsWrong : ChangeSpec := { name := "cueShifts", fn := fun _ => fun
  | [d1, d2, d3] => { results := [.lit (.bool false)], args := [d1, d2, d3] }
  | _ => none }
def CueShiftsWrongFalsely : Prop := cueShiftsRow.holds Try.pinned (OpenSpec.ofChange cueShiftsWrong)

/-- 'dancestudiolaw15.CueSlows': WHATEVER THE INPUT: true; the input reads as it did. -/
def cueSlowsSpec : ChangeSpec := { name := "cueSlows", fn := fun _ => fun
  | [d1, d2] => { results := [.lit (.bool true)], args := [d1, d2] }
  | _ => none }
def cueSlowsRow : OpenClaim := { program := "ytljjgcfifhfhdaa", sum := "c8416baf39bdc84d4cbdc700db33290c51c5c44d6769f4259f85ffb8f0074de8", func := "dancestudio/dancestudiolaw15.CueSlows", spec := "cueSlows", unfollowed := true, recurses := true, apart := false }
def CueSlowsSaid : Prop := cueSlowsRow.holds Try.pinned (OpenSpec.ofChange cueSlowsSpec)

/-- ITS FALSE NEIGHBOUR: 'it returns false'. Refute it at one input. -/
def cueSlowsWrong : ChangeSpec := { name := "cueSlows", fn := fun _ => fun
  | [d1, d2] => { results := [.lit (.bool false)], args := [d1, d2] }
  | _ => none }
def CueSlowsWrongFalsely : Prop := cueSlowsRow.holds Try.pinned (OpenSpec.ofChange cueSlowsWrong)

/- THE SECOND FORM. 'bulk': how many values and letters a reading holds, each counted each time it is reached (what is shared counts as often as it is met; a slice's spare places count too). A statement '..UptoSaid' is the law's where the arguments, and the package variables that the reading takes, are together of bulk at most 1048576: NARROWER than '..Said'. Prove '..Said' where nothing that the law and all that it calls make is longer than what came in: it says more and counts as full. Else prove '..UptoSaid'. A law counts once. -/
mutual
def uptoBulk {H : Type} : DataW H → Nat
  | .lit (.string bytes) => bytes.length + 1
  | .lit _ => 1
  | .nil => 1
  | .ptr d => uptoBulk d + 1
  | .slice elems spare => uptoBulkAll elems + uptoBulkAll spare + 1
  | .agg parts => uptoBulkAll parts + 1
  | .iface _ d => uptoBulk d + 1
  | .map entries => uptoBulkEntries entries + 1
  | .held _ => 1
def uptoBulkAll {H : Type} : List (DataW H) → Nat
  | [] => 0
  | d :: r => uptoBulk d + uptoBulkAll r
def uptoBulkEntries {H : Type} : List (Lit × DataW H) → Nat
  | [] => 0
  | x :: r => uptoBulkEntry x + uptoBulkEntries r
def uptoBulkEntry {H : Type} : Lit × DataW H → Nat
  | (.string bytes, d) => bytes.length + uptoBulk d + 1
  | (_, d) => uptoBulk d + 1
 end
def uptoSmall : (H : Type) → List (DataW H) → Bool := fun _ ds => decide (uptoBulkAll ds ≤ 1048576)
def OpenSpec.upto (s : _root_.Go.ChangeSpec) : _root_.Go.OpenSpec := { _root_.Go.OpenSpec.ofChange s with cond := some uptoSmall }

/-- 'dancestudiolaw15.CueChecks', WHERE WHAT IT READS IS OF BULK AT MOST 1048576: true; the input reads as it did. -/
def cueChecksUptoRow : OpenClaim := { program := "ytljjgcfifhfhdaa", sum := "c8416baf39bdc84d4cbdc700db33290c51c5c44d6769f4259f85ffb8f0074de8", func := "dancestudio/dancestudiolaw15.CueChecks", spec := "cueChecks", unfollowed := true, recurses := true, apart := false, narrowed := true }
def CueChecksUptoSaid : Prop := cueChecksUptoRow.holds Try.pinned (OpenSpec.upto cueChecksSpec)

/-- 'dancestudiolaw15.CueFits', WHERE WHAT IT READS IS OF BULK AT MOST 1048576: true; the input reads as it did. -/
def cueFitsUptoRow : OpenClaim := { program := "ytljjgcfifhfhdaa", sum := "c8416baf39bdc84d4cbdc700db33290c51c5c44d6769f4259f85ffb8f0074de8", func := "dancestudio/dancestudiolaw15.CueFits", spec := "cueFits", unfollowed := true, recurses := true, apart := false, narrowed := true }
def CueFitsUptoSaid : Prop := cueFitsUptoRow.holds Try.pinned (OpenSpec.upto cueFitsSpec)

/-- 'dancestudiolaw15.CueDrifts', WHERE WHAT IT READS IS OF BULK AT MOST 1048576: true; the input reads as it did. -/
def cueDriftsUptoRow : OpenClaim := { program := "ytljjgcfifhfhdaa", sum := "c8416baf39bdc84d4cbdc700db33290c51c5c44d6769f4259f85ffb8f0074de8", func := "dancestudio/dancestudiolaw15.CueDrifts", spec := "cueDrifts", unfollowed := true, recurses := true, apart := false, narrowed := true }
def CueDriftsUptoSaid : Prop := cueDriftsUptoRow.holds Try.pinned (OpenSpec.upto cueDriftsSpec)

/-- 'dancestudiolaw15.CueExact', WHERE WHAT IT READS IS OF BULK AT MOST 1048576: true; the input reads as it did. -/
def cueExactUptoRow : OpenClaim := { program := "ytljjgcfifhfhdaa", sum := "c8416baf39bdc84d4cbdc700db33290c51c5c44d6769f4259f85ffb8f0074de8", func := "dancestudio/dancestudiolaw15.CueExact", spec := "cueExact", unfollowed := true, recurses := true, apart := false, narrowed := true }
def CueExactUptoSaid : Prop := cueExactUptoRow.holds Try.pinned (OpenSpec.upto cueExactSpec)

/-- 'dancestudiolaw15.CueTicks', WHERE WHAT IT READS IS OF BULK AT MOST 1048576: true; the input reads as it did. -/
def cueTicksUptoRow : OpenClaim := { program := "ytljjgcfifhfhdaa", sum := "c8416baf39bdc84d4cbdc700db33290c51c5c44d6769f4259f85ffb8f0074de8", func := "dancestudio/dancestudiolaw15.CueTicks", spec := "cueTicks", unfollowed := true, recurses := true, apart := false, narrowed := true }
def CueTicksUptoSaid : Prop := cueTicksUptoRow.holds Try.pinned (OpenSpec.upto cueTicksSpec)

/-- 'dancestudiolaw15.CueShifts', WHERE WHAT IT READS IS OF BULK AT MOST 1048576: true; the input reads as it did. -/
def cueShiftsUptoRow : OpenClaim := { program := "ytljjgcfifhfhdaa", sum := "c8416baf39bdc84d4cbdc700db33290c51c5c44d6769f4259f85ffb8f0074de8", func := "dancestudio/dancestudiolaw15.CueShifts", spec := "cueShifts", unfollowed := true, recurses := true, apart := false, narrowed := true }
def CueShiftsUptoSaid : Prop := cueShiftsUptoRow.holds Try.pinned (OpenSpec.upto cueShiftsSpec)

/-- 'dancestudiolaw15.CueSlows', WHERE WHAT IT READS IS OF BULK AT MOST 1048576: true; the input reads as it did. -/
def cueSlowsUptoRow : OpenClaim := { program := "ytljjgcfifhfhdaa", sum := "c8416baf39bdc84d4cbdc700db33290c51c5c44d6769f4259f85ffb8f0074de8", func := "dancestudio/dancestudiolaw15.CueSlows", spec := "cueSlows", unfollowed := true, recurses := true, apart := false, narrowed := true }
def CueSlowsUptoSaid : Prop := cueSlowsUptoRow.holds Try.pinned (OpenSpec.upto cueSlowsSpec)

end Rows
end Go.Proofs.Ytljjgcfifhfhdaa
