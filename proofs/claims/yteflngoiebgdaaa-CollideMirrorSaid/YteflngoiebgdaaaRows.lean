/-
  No cell of these rows narrows 'for every input' (looked for: loops, veiled, ifaces, maps, wideKeys, modest, calm, conditions, laid).
  DERIVED. THE GIVEN ROWS OF THIS SEAT. 8 by the template 'for every input the law returns true; each argument reads behind the call as it read before'; 0 by the template 'total and deterministic' (their statements: YteflngoiebgdaaaTotals.lean).
  GIVEN WITH THE SEED: the statements are not yours to turn. If you find one false, say at which input.
  Laid BY PROGRAM, IN A SANDBOX (cutbox-rows.mjs): the forced cells as the released guide's own fill.sh prints them over the translation c2b7df3eee15a8bf… (all of the seat's roots in one cut). By AI agents, Wed Nov 11 2026. No macro, syntax, notation, axiom, sorry.
-/
import Derived.Test.YteflngoiebgdaaaChecked
import GoSem.Claim
import GoSem.ClaimJoined
import GoSem.ClaimMapViews
import Derived.JoinedTies
import Derived.KernelRfl
namespace Go.Proofs.Yteflngoiebgdaaa
/- THE CELL 'sum', in the pinned program and in every row, IS THE sha256 OF THE DUMP (.gsa) THAT YteflngoiebgdaaaProg.lean LOADS. Nothing in Lean hashes anything: it is a label: what it is worth is what the hold of that sum in a sandbox is worth. -/
noncomputable def Try.pinned : Pinned := { name := "yteflngoiebgdaaa", sum := "c2b7df3eee15a8bfea9584658749de23f3f5cc7d7af106254c5444d8754f8864", checked := Try.checked }
namespace Rows
def none {H : Type} : Left H := { results := [], args := [] }

/-- 'dancestudiolaw44.CollideCheck': WHATEVER THE INPUT: true; the input reads as it did. -/
def collideCheckSpec : ChangeSpec := { name := "collideCheck", fn := fun _ => fun
  | [d1, d2, d3, d4] => { results := [.lit (.bool true)], args := [d1, d2, d3, d4] }
  | _ => none }
def collideCheckRow : OpenClaim := { program := "yteflngoiebgdaaa", sum := "c2b7df3eee15a8bfea9584658749de23f3f5cc7d7af106254c5444d8754f8864", func := "dancestudio/dancestudiolaw44.CollideCheck", spec := "collideCheck", unfollowed := true, recurses := true, apart := false }
def CollideCheckSaid : Prop := collideCheckRow.holds Try.pinned (OpenSpec.ofChange collideCheckSpec)

/-- ITS FALSE NEIGHBOUR: 'it returns false'. Refute it at one input. -/
def collideCheckWrong : ChangeSpec := { name := "collideCheck", fn := fun _ => fun
  | [d1, d2, d3, d4] => { results := [.lit (.bool false)], args := [d1, d2, d3, d4] }
  | _ => none }
def CollideCheckWrongFalsely : Prop := collideCheckRow.holds Try.pinned (OpenSpec.ofChange collideCheckWrong)

/-- 'dancestudiolaw44.CollideMeets': WHATEVER THE INPUT: true; the input reads as it did. -/
def collideMeetsSpec : ChangeSpec := { name := "collideMeets", fn := fun _ => fun
  | [d1, d2, d3] => { results := [.lit (.bool true)], args := [d1, d2, d3] }
  | _ => none }
def collideMeetsRow : OpenClaim := { program := "yteflngoiebgdaaa", sum := "c2b7df3eee15a8bfea9584658749de23f3f5cc7d7af106254c5444d8754f8864", func := "dancestudio/dancestudiolaw44.CollideMeets", spec := "collideMeets", unfollowed := true, recurses := true, apart := false }
def CollideMeetsSaid : Prop := collideMeetsRow.holds Try.pinned (OpenSpec.ofChange collideMeetsSpec)

/-- ITS FALSE NEIGHBOUR: 'it returns false'. Refute it at one input. -/
def collideMeetsWrong : ChangeSpec := { name := "collideMeets", fn := fun _ => fun
  | [d1, d2, d3] => { results := [.lit (.bool false)], args := [d1, d2, d3] }
  | _ => none }
def CollideMeetsWrongFalsely : Prop := collideMeetsRow.holds Try.pinned (OpenSpec.ofChange collideMeetsWrong)

/-- 'dancestudiolaw44.CollideRoom': WHATEVER THE INPUT: true; the input reads as it did. -/
def collideRoomSpec : ChangeSpec := { name := "collideRoom", fn := fun _ => fun
  | [d1, d2, d3, d4] => { results := [.lit (.bool true)], args := [d1, d2, d3, d4] }
  | _ => none }
def collideRoomRow : OpenClaim := { program := "yteflngoiebgdaaa", sum := "c2b7df3eee15a8bfea9584658749de23f3f5cc7d7af106254c5444d8754f8864", func := "dancestudio/dancestudiolaw44.CollideRoom", spec := "collideRoom", unfollowed := true, recurses := true, apart := false }
def CollideRoomSaid : Prop := collideRoomRow.holds Try.pinned (OpenSpec.ofChange collideRoomSpec)

/-- ITS FALSE NEIGHBOUR: 'it returns false'. Refute it at one input. -/
def collideRoomWrong : ChangeSpec := { name := "collideRoom", fn := fun _ => fun
  | [d1, d2, d3, d4] => { results := [.lit (.bool false)], args := [d1, d2, d3, d4] }
  | _ => none }
def CollideRoomWrongFalsely : Prop := collideRoomRow.holds Try.pinned (OpenSpec.ofChange collideRoomWrong)

/-- 'dancestudiolaw44.CollideFirst': WHATEVER THE INPUT: true; the input reads as it did. -/
def collideFirstSpec : ChangeSpec := { name := "collideFirst", fn := fun _ => fun
  | [d1, d2, d3] => { results := [.lit (.bool true)], args := [d1, d2, d3] }
  | _ => none }
def collideFirstRow : OpenClaim := { program := "yteflngoiebgdaaa", sum := "c2b7df3eee15a8bfea9584658749de23f3f5cc7d7af106254c5444d8754f8864", func := "dancestudio/dancestudiolaw44.CollideFirst", spec := "collideFirst", unfollowed := true, recurses := true, apart := false }
def CollideFirstSaid : Prop := collideFirstRow.holds Try.pinned (OpenSpec.ofChange collideFirstSpec)

/-- ITS FALSE NEIGHBOUR: 'it returns false'. Refute it at one input. -/
def collideFirstWrong : ChangeSpec := { name := "collideFirst", fn := fun _ => fun
  | [d1, d2, d3] => { results := [.lit (.bool false)], args := [d1, d2, d3] }
  | _ => none }
def CollideFirstWrongFalsely : Prop := collideFirstRow.holds Try.pinned (OpenSpec.ofChange collideFirstWrong)

/-- 'dancestudiolaw44.CollideLeast': WHATEVER THE INPUT: true; the input reads as it did. -/
def collideLeastSpec : ChangeSpec := { name := "collideLeast", fn := fun _ => fun
  | [d1, d2, d3] => { results := [.lit (.bool true)], args := [d1, d2, d3] }
  | _ => none }
def collideLeastRow : OpenClaim := { program := "yteflngoiebgdaaa", sum := "c2b7df3eee15a8bfea9584658749de23f3f5cc7d7af106254c5444d8754f8864", func := "dancestudio/dancestudiolaw44.CollideLeast", spec := "collideLeast", unfollowed := true, recurses := true, apart := false }
def CollideLeastSaid : Prop := collideLeastRow.holds Try.pinned (OpenSpec.ofChange collideLeastSpec)

/-- ITS FALSE NEIGHBOUR: 'it returns false'. Refute it at one input. -/
def collideLeastWrong : ChangeSpec := { name := "collideLeast", fn := fun _ => fun
  | [d1, d2, d3] => { results := [.lit (.bool false)], args := [d1, d2, d3] }
  | _ => none }
def CollideLeastWrongFalsely : Prop := collideLeastRow.holds Try.pinned (OpenSpec.ofChange collideLeastWrong)

/-- 'dancestudiolaw44.CollideLess': WHATEVER THE INPUT: true; the input reads as it did. -/
def collideLessSpec : ChangeSpec := { name := "collideLess", fn := fun _ => fun
  | [d1, d2, d3, d4] => { results := [.lit (.bool true)], args := [d1, d2, d3, d4] }
  | _ => none }
def collideLessRow : OpenClaim := { program := "yteflngoiebgdaaa", sum := "c2b7df3eee15a8bfea9584658749de23f3f5cc7d7af106254c5444d8754f8864", func := "dancestudio/dancestudiolaw44.CollideLess", spec := "collideLess", unfollowed := true, recurses := true, apart := false }
def CollideLessSaid : Prop := collideLessRow.holds Try.pinned (OpenSpec.ofChange collideLessSpec)

/-- ITS FALSE NEIGHBOUR: 'it returns false'. Refute it at one input. -/
def collideLessWrong : ChangeSpec := { name := "collideLess", fn := fun _ => fun
  | [d1, d2, d3, d4] => { results := [.lit (.bool false)], args := [d1, d2, d3, d4] }
  | _ => none }
def CollideLessWrongFalsely : Prop := collideLessRow.holds Try.pinned (OpenSpec.ofChange collideLessWrong)

/-- 'dancestudiolaw44.CollideApart': WHATEVER THE INPUT: true; the input reads as it did. -/
def collideApartSpec : ChangeSpec := { name := "collideApart", fn := fun _ => fun
  | [d1, d2, d3] => { results := [.lit (.bool true)], args := [d1, d2, d3] }
  | _ => none }
def collideApartRow : OpenClaim := { program := "yteflngoiebgdaaa", sum := "c2b7df3eee15a8bfea9584658749de23f3f5cc7d7af106254c5444d8754f8864", func := "dancestudio/dancestudiolaw44.CollideApart", spec := "collideApart", unfollowed := true, recurses := true, apart := false }
def CollideApartSaid : Prop := collideApartRow.holds Try.pinned (OpenSpec.ofChange collideApartSpec)

/-- ITS FALSE NEIGHBOUR: 'it returns false'. Refute it at one input. -/
def collideApartWrong : ChangeSpec := { name := "collideApart", fn := fun _ => fun
  | [d1, d2, d3] => { results := [.lit (.bool false)], args := [d1, d2, d3] }
  | _ => none }
def CollideApartWrongFalsely : Prop := collideApartRow.holds Try.pinned (OpenSpec.ofChange collideApartWrong)

/-- 'dancestudiolaw44.CollideMirror': WHATEVER THE INPUT: true; the input reads as it did. -/
def collideMirrorSpec : ChangeSpec := { name := "collideMirror", fn := fun _ => fun
  | [d1, d2, d3] => { results := [.lit (.bool true)], args := [d1, d2, d3] }
  | _ => none }
def collideMirrorRow : OpenClaim := { program := "yteflngoiebgdaaa", sum := "c2b7df3eee15a8bfea9584658749de23f3f5cc7d7af106254c5444d8754f8864", func := "dancestudio/dancestudiolaw44.CollideMirror", spec := "collideMirror", unfollowed := true, recurses := true, apart := false }
def CollideMirrorSaid : Prop := collideMirrorRow.holds Try.pinned (OpenSpec.ofChange collideMirrorSpec)

/-- ITS FALSE NEIGHBOUR: 'it returns false'. Refute it at one input. -/
def collideMirrorWrong : ChangeSpec := { name := "collideMirror", fn := fun _ => fun
  | [d1, d2, d3] => { results := [.lit (.bool false)], args := [d1, d2, d3] }
  | _ => none }
def CollideMirrorWrongFalsely : Prop := collideMirrorRow.holds Try.pinned (OpenSpec.ofChange collideMirrorWrong)

/- THE SECOND FORM. 'bulk': how many values and letters a reading holds, each counted each time it is reached (what is shared counts as often as it is met; a slice's spare places count too). A statement '..UptoSaid' is the law's where the arguments, and the package variables that the reading takes, are together of bulk at most 1048576: NARROWER than '..Said'. Prove '..Said' where nothing that the law and all that it calls make is longer than what came in: it says more and counts as full. Else prove '..UptoSaid'. A law counts once. -/
mutual
def uptoBulk {H : Type} : DataW H → Nat
  | .lit (.string bytes) => bytes.length + 1
  | .lit _ => 1
  | .nil => 1
  | .ptr d => uptoBulk d + 1
  | .slice elems spare => uptoBulkAll elems + uptoBulkAll spare + 1
  | .agg parts => uptoBulkAll parts + 1
  | .iface _ d => uptoBulk d + 1
  | .map entries => uptoBulkEntries entries + 1
  | .held _ => 1
def uptoBulkAll {H : Type} : List (DataW H) → Nat
  | [] => 0
  | d :: r => uptoBulk d + uptoBulkAll r
def uptoBulkEntries {H : Type} : List (Lit × DataW H) → Nat
  | [] => 0
  | x :: r => uptoBulkEntry x + uptoBulkEntries r
def uptoBulkEntry {H : Type} : Lit × DataW H → Nat
  | (.string bytes, d) => bytes.length + uptoBulk d + 1
  | (_, d) => uptoBulk d + 1
 end
def uptoSmall : (H : Type) → List (DataW H) → Bool := fun _ ds => decide (uptoBulkAll ds ≤ 1048576)
def OpenSpec.upto (s : _root_.Go.ChangeSpec) : _root_.Go.OpenSpec := { _root_.Go.OpenSpec.ofChange s with cond := some uptoSmall }

/-- 'dancestudiolaw44.CollideCheck', WHERE WHAT IT READS IS OF BULK AT MOST 1048576: true; the input reads as it did. -/
def collideCheckUptoRow : OpenClaim := { program := "yteflngoiebgdaaa", sum := "c2b7df3eee15a8bfea9584658749de23f3f5cc7d7af106254c5444d8754f8864", func := "dancestudio/dancestudiolaw44.CollideCheck", spec := "collideCheck", unfollowed := true, recurses := true, apart := false, narrowed := true }
def CollideCheckUptoSaid : Prop := collideCheckUptoRow.holds Try.pinned (OpenSpec.upto collideCheckSpec)

/-- 'dancestudiolaw44.CollideMeets', WHERE WHAT IT READS IS OF BULK AT MOST 1048576: true; the input reads as it did. -/
def collideMeetsUptoRow : OpenClaim := { program := "yteflngoiebgdaaa", sum := "c2b7df3eee15a8bfea9584658749de23f3f5cc7d7af106254c5444d8754f8864", func := "dancestudio/dancestudiolaw44.CollideMeets", spec := "collideMeets", unfollowed := true, recurses := true, apart := false, narrowed := true }
def CollideMeetsUptoSaid : Prop := collideMeetsUptoRow.holds Try.pinned (OpenSpec.upto collideMeetsSpec)

/-- 'dancestudiolaw44.CollideRoom', WHERE WHAT IT READS IS OF BULK AT MOST 1048576: true; the input reads as it did. -/
def collideRoomUptoRow : OpenClaim := { program := "yteflngoiebgdaaa", sum := "c2b7df3eee15a8bfea9584658749de23f3f5cc7d7af106254c5444d8754f8864", func := "dancestudio/dancestudiolaw44.CollideRoom", spec := "collideRoom", unfollowed := true, recurses := true, apart := false, narrowed := true }
def CollideRoomUptoSaid : Prop := collideRoomUptoRow.holds Try.pinned (OpenSpec.upto collideRoomSpec)

/-- 'dancestudiolaw44.CollideFirst', WHERE WHAT IT READS IS OF BULK AT MOST 1048576: true; the input reads as it did. -/
def collideFirstUptoRow : OpenClaim := { program := "yteflngoiebgdaaa", sum := "c2b7df3eee15a8bfea9584658749de23f3f5cc7d7af106254c5444d8754f8864", func := "dancestudio/dancestudiolaw44.CollideFirst", spec := "collideFirst", unfollowed := true, recurses := true, apart := false, narrowed := true }
def CollideFirstUptoSaid : Prop := collideFirstUptoRow.holds Try.pinned (OpenSpec.upto collideFirstSpec)

/-- 'dancestudiolaw44.CollideLeast', WHERE WHAT IT READS IS OF BULK AT MOST 1048576: true; the input reads as it did. -/
def collideLeastUptoRow : OpenClaim := { program := "yteflngoiebgdaaa", sum := "c2b7df3eee15a8bfea9584658749de23f3f5cc7d7af106254c5444d8754f8864", func := "dancestudio/dancestudiolaw44.CollideLeast", spec := "collideLeast", unfollowed := true, recurses := true, apart := false, narrowed := true }
def CollideLeastUptoSaid : Prop := collideLeastUptoRow.holds Try.pinned (OpenSpec.upto collideLeastSpec)

/-- 'dancestudiolaw44.CollideLess', WHERE WHAT IT READS IS OF BULK AT MOST 1048576: true; the input reads as it did. -/
def collideLessUptoRow : OpenClaim := { program := "yteflngoiebgdaaa", sum := "c2b7df3eee15a8bfea9584658749de23f3f5cc7d7af106254c5444d8754f8864", func := "dancestudio/dancestudiolaw44.CollideLess", spec := "collideLess", unfollowed := true, recurses := true, apart := false, narrowed := true }
def CollideLessUptoSaid : Prop := collideLessUptoRow.holds Try.pinned (OpenSpec.upto collideLessSpec)

/-- 'dancestudiolaw44.CollideApart', WHERE WHAT IT READS IS OF BULK AT MOST 1048576: true; the input reads as it did. -/
def collideApartUptoRow : OpenClaim := { program := "yteflngoiebgdaaa", sum := "c2b7df3eee15a8bfea9584658749de23f3f5cc7d7af106254c5444d8754f8864", func := "dancestudio/dancestudiolaw44.CollideApart", spec := "collideApart", unfollowed := true, recurses := true, apart := false, narrowed := true }
def CollideApartUptoSaid : Prop := collideApartUptoRow.holds Try.pinned (OpenSpec.upto collideApartSpec)

/-- 'dancestudiolaw44.CollideMirror', WHERE WHAT IT READS IS OF BULK AT MOST 1048576: true; the input reads as it did. -/
def collideMirrorUptoRow : OpenClaim := { program := "yteflngoiebgdaaa", sum := "c2b7df3eee15a8bfea9584658749de23f3f5cc7d7af106254c5444d8754f8864", func := "dancestudio/dancestudiolaw44.CollideMirror", spec := "collideMirror", unfollowed := true, recurses := true, apart := false, narrowed := true }
def CollideMirrorUptoSaid : Prop := collideMirrorUptoRow.holds Try.pinned (OpenSpec.upto collideMirrorSpec)

end Rows
end Go.Proofs.Yteflngoiebgdaaa
