/-
  No cell of these rows narrows 'for every input' (looked for: loops, veiled, ifaces, maps, wideKeys, modest, calm, conditions, laid).
  DERIVED. THE GIVEN ROWS OF THIS SEAT. 6 by the template 'for every input the law returns true; each argument reads behind the call as it read before'; 0 by the template 'total and deterministic' (their statements: YtmdmajfgpmopbaaTotals.lean).
  GIVEN WITH THE SEED: the statements are not yours to turn. If you find one false, say at which input.
  Laid BY PROGRAM, IN A SANDBOX (cutbox-rows.mjs): the forced cells as the released guide's own fill.sh prints them over the translation 1d58671e1e2640e6… (all of the seat's roots in one cut). By AI agents, Wed Nov 11 2026. No macro, syntax, notation, axiom, sorry.
-/
import Derived.Test.YtmdmajfgpmopbaaChecked
import GoSem.Claim
import GoSem.ClaimJoined
import GoSem.ClaimMapViews
import Derived.JoinedTies
import Derived.KernelRfl
namespace Go.Proofs.Ytmdmajfgpmopbaa
/- THE CELL 'sum', in the pinned program and in every row, IS THE sha256 OF THE DUMP (.gsa) THAT YtmdmajfgpmopbaaProg.lean LOADS. Nothing in Lean hashes anything: it is a label: what it is worth is what the hold of that sum in a sandbox is worth. -/
noncomputable def Try.pinned : Pinned := { name := "ytmdmajfgpmopbaa", sum := "1d58671e1e2640e6a293bbfb951d504074dd4ef996ac9773a92686975afe70d9", checked := Try.checked }
namespace Rows
def none {H : Type} : Left H := { results := [], args := [] }

/-- 'dancestudiolaw43.FloorPaths': WHATEVER THE INPUT: true; the input reads as it did. -/
def floorPathsSpec : ChangeSpec := { name := "floorPaths", fn := fun _ => fun
  | [d] => { results := [.lit (.bool true)], args := [d] }
  | _ => none }
def floorPathsRow : OpenClaim := { program := "ytmdmajfgpmopbaa", sum := "1d58671e1e2640e6a293bbfb951d504074dd4ef996ac9773a92686975afe70d9", func := "dancestudio/dancestudiolaw43.FloorPaths", spec := "floorPaths", unfollowed := true, recurses := true, apart := false }
def FloorPathsSaid : Prop := floorPathsRow.holds Try.pinned (OpenSpec.ofChange floorPathsSpec)

/-- ITS FALSE NEIGHBOUR: 'it returns false'. Refute it at one input. -/
def floorPathsWrong : ChangeSpec := { name := "floorPaths", fn := fun _ => fun
  | [d] => { results := [.lit (.bool false)], args := [d] }
  | _ => none }
def FloorPathsWrongFalsely : Prop := floorPathsRow.holds Try.pinned (OpenSpec.ofChange floorPathsWrong)

/-- 'dancestudiolaw43.FloorFirsts': WHATEVER THE INPUT: true; the input reads as it did. -/
def floorFirstsSpec : ChangeSpec := { name := "floorFirsts", fn := fun _ => fun
  | [d1, d2, d3] => { results := [.lit (.bool true)], args := [d1, d2, d3] }
  | _ => none }
def floorFirstsRow : OpenClaim := { program := "ytmdmajfgpmopbaa", sum := "1d58671e1e2640e6a293bbfb951d504074dd4ef996ac9773a92686975afe70d9", func := "dancestudio/dancestudiolaw43.FloorFirsts", spec := "floorFirsts", unfollowed := true, recurses := true, apart := false }
def FloorFirstsSaid : Prop := floorFirstsRow.holds Try.pinned (OpenSpec.ofChange floorFirstsSpec)

/-- ITS FALSE NEIGHBOUR: 'it returns false'. Refute it at one input. -/
def floorFirstsWrong : ChangeSpec := { name := "floorFirsts", fn := fun _ => fun
  | [d1, d2, d3] => { results := [.lit (.bool false)], args := [d1, d2, d3] }
  | _ => none }
def FloorFirstsWrongFalsely : Prop := floorFirstsRow.holds Try.pinned (OpenSpec.ofChange floorFirstsWrong)

/-- 'dancestudiolaw43.FloorPath': WHATEVER THE INPUT: true; the input reads as it did. -/
def floorPathSpec : ChangeSpec := { name := "floorPath", fn := fun _ => fun
  | [d] => { results := [.lit (.bool true)], args := [d] }
  | _ => none }
def floorPathRow : OpenClaim := { program := "ytmdmajfgpmopbaa", sum := "1d58671e1e2640e6a293bbfb951d504074dd4ef996ac9773a92686975afe70d9", func := "dancestudio/dancestudiolaw43.FloorPath", spec := "floorPath", unfollowed := true, recurses := true, apart := false }
def FloorPathSaid : Prop := floorPathRow.holds Try.pinned (OpenSpec.ofChange floorPathSpec)

/-- ITS FALSE NEIGHBOUR: 'it returns false'. Refute it at one input. -/
def floorPathWrong : ChangeSpec := { name := "floorPath", fn := fun _ => fun
  | [d] => { results := [.lit (.bool false)], args := [d] }
  | _ => none }
def FloorPathWrongFalsely : Prop := floorPathRow.holds Try.pinned (OpenSpec.ofChange floorPathWrong)

/-- 'dancestudiolaw43.FloorBox': WHATEVER THE INPUT: true; the input reads as it did. -/
def floorBoxSpec : ChangeSpec := { name := "floorBox", fn := fun _ => fun
  | [d] => { results := [.lit (.bool true)], args := [d] }
  | _ => none }
def floorBoxRow : OpenClaim := { program := "ytmdmajfgpmopbaa", sum := "1d58671e1e2640e6a293bbfb951d504074dd4ef996ac9773a92686975afe70d9", func := "dancestudio/dancestudiolaw43.FloorBox", spec := "floorBox", unfollowed := true, recurses := true, apart := false }
def FloorBoxSaid : Prop := floorBoxRow.holds Try.pinned (OpenSpec.ofChange floorBoxSpec)

/-- ITS FALSE NEIGHBOUR: 'it returns false'. Refute it at one input. -/
def floorBoxWrong : ChangeSpec := { name := "floorBox", fn := fun _ => fun
  | [d] => { results := [.lit (.bool false)], args := [d] }
  | _ => none }
def FloorBoxWrongFalsely : Prop := floorBoxRow.holds Try.pinned (OpenSpec.ofChange floorBoxWrong)

/-- 'dancestudiolaw43.FloorHits': WHATEVER THE INPUT: true; the input reads as it did. -/
def floorHitsSpec : ChangeSpec := { name := "floorHits", fn := fun _ => fun
  | [d1, d2, d3] => { results := [.lit (.bool true)], args := [d1, d2, d3] }
  | _ => none }
def floorHitsRow : OpenClaim := { program := "ytmdmajfgpmopbaa", sum := "1d58671e1e2640e6a293bbfb951d504074dd4ef996ac9773a92686975afe70d9", func := "dancestudio/dancestudiolaw43.FloorHits", spec := "floorHits", unfollowed := true, recurses := true, apart := false }
def FloorHitsSaid : Prop := floorHitsRow.holds Try.pinned (OpenSpec.ofChange floorHitsSpec)

/-- ITS FALSE NEIGHBOUR: 'it returns false'. Refute it at one input. -/
def floorHitsWrong : ChangeSpec := { name := "floorHits", fn := fun _ => fun
  | [d1, d2, d3] => { results := [.lit (.bool false)], args := [d1, d2, d3] }
  | _ => none }
def FloorHitsWrongFalsely : Prop := floorHitsRow.holds Try.pinned (OpenSpec.ofChange floorHitsWrong)

/-- 'dancestudiolaw43.FloorWay': WHATEVER THE INPUT: true; the input reads as it did. -/
def floorWaySpec : ChangeSpec := { name := "floorWay", fn := fun _ => fun
  | [d] => { results := [.lit (.bool true)], args := [d] }
  | _ => none }
def floorWayRow : OpenClaim := { program := "ytmdmajfgpmopbaa", sum := "1d58671e1e2640e6a293bbfb951d504074dd4ef996ac9773a92686975afe70d9", func := "dancestudio/dancestudiolaw43.FloorWay", spec := "floorWay", unfollowed := true, recurses := true, apart := false }
def FloorWaySaid : Prop := floorWayRow.holds Try.pinned (OpenSpec.ofChange floorWaySpec)

/-- ITS FALSE NEIGHBOUR: 'it returns false'. Refute it at one input. -/
def floorWayWrong : ChangeSpec := { name := "floorWay", fn := fun _ => fun
  | [d] => { results := [.lit (.bool false)], args := [d] }
  | _ => none }
def FloorWayWrongFalsely : Prop := floorWayRow.holds Try.pinned (OpenSpec.ofChange floorWayWrong)

/- THE SECOND FORM. 'bulk': how many values and letters a reading holds, each counted each time it is reached (what is shared counts as often as it is met; a slice's spare places count too). A statement '..UptoSaid' is the law's where the arguments, and the package variables that the reading takes, are together of bulk at most 1048576: NARROWER than '..Said'. Prove '..Said' where nothing that the law and all that it calls make is longer than what came in: it says more and counts as full. Else prove '..UptoSaid'. A law counts once. -/
mutual
def uptoBulk {H : Type} : DataW H → Nat
  | .lit (.string bytes) => bytes.length + 1
  | .lit _ => 1
  | .nil => 1
  | .ptr d => uptoBulk d + 1
  | .slice elems spare => uptoBulkAll elems + uptoBulkAll spare + 1
  | .agg parts => uptoBulkAll parts + 1
  | .iface _ d => uptoBulk d + 1
  | .map entries => uptoBulkEntries entries + 1
  | .held _ => 1
def uptoBulkAll {H : Type} : List (DataW H) → Nat
  | [] => 0
  | d :: r => uptoBulk d + uptoBulkAll r
def uptoBulkEntries {H : Type} : List (Lit × DataW H) → Nat
  | [] => 0
  | x :: r => uptoBulkEntry x + uptoBulkEntries r
def uptoBulkEntry {H : Type} : Lit × DataW H → Nat
  | (.string bytes, d) => bytes.length + uptoBulk d + 1
  | (_, d) => uptoBulk d + 1
 end
def uptoSmall : (H : Type) → List (DataW H) → Bool := fun _ ds => decide (uptoBulkAll ds ≤ 1048576)
def OpenSpec.upto (s : _root_.Go.ChangeSpec) : _root_.Go.OpenSpec := { _root_.Go.OpenSpec.ofChange s with cond := some uptoSmall }

/-- 'dancestudiolaw43.FloorPaths', WHERE WHAT IT READS IS OF BULK AT MOST 1048576: true; the input reads as it did. -/
def floorPathsUptoRow : OpenClaim := { program := "ytmdmajfgpmopbaa", sum := "1d58671e1e2640e6a293bbfb951d504074dd4ef996ac9773a92686975afe70d9", func := "dancestudio/dancestudiolaw43.FloorPaths", spec := "floorPaths", unfollowed := true, recurses := true, apart := false, narrowed := true }
def FloorPathsUptoSaid : Prop := floorPathsUptoRow.holds Try.pinned (OpenSpec.upto floorPathsSpec)

/-- 'dancestudiolaw43.FloorFirsts', WHERE WHAT IT READS IS OF BULK AT MOST 1048576: true; the input reads as it did. -/
def floorFirstsUptoRow : OpenClaim := { program := "ytmdmajfgpmopbaa", sum := "1d58671e1e2640e6a293bbfb951d504074dd4ef996ac9773a92686975afe70d9", func := "dancestudio/dancestudiolaw43.FloorFirsts", spec := "floorFirsts", unfollowed := true, recurses := true, apart := false, narrowed := true }
def FloorFirstsUptoSaid : Prop := floorFirstsUptoRow.holds Try.pinned (OpenSpec.upto floorFirstsSpec)

/-- 'dancestudiolaw43.FloorPath', WHERE WHAT IT READS IS OF BULK AT MOST 1048576: true; the input reads as it did. -/
def floorPathUptoRow : OpenClaim := { program := "ytmdmajfgpmopbaa", sum := "1d58671e1e2640e6a293bbfb951d504074dd4ef996ac9773a92686975afe70d9", func := "dancestudio/dancestudiolaw43.FloorPath", spec := "floorPath", unfollowed := true, recurses := true, apart := false, narrowed := true }
def FloorPathUptoSaid : Prop := floorPathUptoRow.holds Try.pinned (OpenSpec.upto floorPathSpec)

/-- 'dancestudiolaw43.FloorBox', WHERE WHAT IT READS IS OF BULK AT MOST 1048576: true; the input reads as it did. -/
def floorBoxUptoRow : OpenClaim := { program := "ytmdmajfgpmopbaa", sum := "1d58671e1e2640e6a293bbfb951d504074dd4ef996ac9773a92686975afe70d9", func := "dancestudio/dancestudiolaw43.FloorBox", spec := "floorBox", unfollowed := true, recurses := true, apart := false, narrowed := true }
def FloorBoxUptoSaid : Prop := floorBoxUptoRow.holds Try.pinned (OpenSpec.upto floorBoxSpec)

/-- 'dancestudiolaw43.FloorHits', WHERE WHAT IT READS IS OF BULK AT MOST 1048576: true; the input reads as it did. -/
def floorHitsUptoRow : OpenClaim := { program := "ytmdmajfgpmopbaa", sum := "1d58671e1e2640e6a293bbfb951d504074dd4ef996ac9773a92686975afe70d9", func := "dancestudio/dancestudiolaw43.FloorHits", spec := "floorHits", unfollowed := true, recurses := true, apart := false, narrowed := true }
def FloorHitsUptoSaid : Prop := floorHitsUptoRow.holds Try.pinned (OpenSpec.upto floorHitsSpec)

/-- 'dancestudiolaw43.FloorWay', WHERE WHAT IT READS IS OF BULK AT MOST 1048576: true; the input reads as it did. -/
def floorWayUptoRow : OpenClaim := { program := "ytmdmajfgpmopbaa", sum := "1d58671e1e2640e6a293bbfb951d504074dd4ef996ac9773a92686975afe70d9", func := "dancestudio/dancestudiolaw43.FloorWay", spec := "floorWay", unfollowed := true, recurses := true, apart := false, narrowed := true }
def FloorWayUptoSaid : Prop := floorWayUptoRow.holds Try.pinned (OpenSpec.upto floorWaySpec)

end Rows
end Go.Proofs.Ytmdmajfgpmopbaa
