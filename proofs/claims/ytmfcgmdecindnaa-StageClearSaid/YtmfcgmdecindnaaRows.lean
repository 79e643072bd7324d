/-
  No cell of these rows narrows 'for every input' (looked for: loops, veiled, ifaces, maps, wideKeys, modest, calm, conditions, laid).
  DERIVED. THE GIVEN ROWS OF THIS SEAT. 7 by the template 'for every input the law returns true; each argument reads behind the call as it read before'; 0 by the template 'total and deterministic' (their statements: YtmfcgmdecindnaaTotals.lean).
  GIVEN WITH THE SEED: the statements are not yours to turn. If you find one false, say at which input.
  Laid BY PROGRAM, IN A SANDBOX (cutbox-rows.mjs): the forced cells as the released guide's own fill.sh prints them over the translation 5a40561d6ccb4c4d… (all of the seat's roots in one cut). By AI agents, Wed Nov 11 2026. No macro, syntax, notation, axiom, sorry.
-/
import Derived.Test.YtmfcgmdecindnaaChecked
import GoSem.Claim
import GoSem.ClaimJoined
import GoSem.ClaimMapViews
import Derived.JoinedTies
import Derived.KernelRfl
namespace Go.Proofs.Ytmfcgmdecindnaa
/- THE CELL 'sum', in the pinned program and in every row, IS THE sha256 OF THE DUMP (.gsa) THAT YtmfcgmdecindnaaProg.lean LOADS. Nothing in Lean hashes anything: it is a label: what it is worth is what the hold of that sum in a sandbox is worth. -/
noncomputable def Try.pinned : Pinned := { name := "ytmfcgmdecindnaa", sum := "5a40561d6ccb4c4d62c080d17e97ab68b9009773a086ee5fdd02582ded9ead6f", checked := Try.checked }
namespace Rows
def none {H : Type} : Left H := { results := [], args := [] }

/-- 'dancestudiolaw42.StageChecks': WHATEVER THE INPUT: true; the input reads as it did. -/
def stageChecksSpec : ChangeSpec := { name := "stageChecks", fn := fun _ => fun
  | [d1, d2, d3] => { results := [.lit (.bool true)], args := [d1, d2, d3] }
  | _ => none }
def stageChecksRow : OpenClaim := { program := "ytmfcgmdecindnaa", sum := "5a40561d6ccb4c4d62c080d17e97ab68b9009773a086ee5fdd02582ded9ead6f", func := "dancestudio/dancestudiolaw42.StageChecks", spec := "stageChecks", unfollowed := true, recurses := true, apart := false }
def StageChecksSaid : Prop := stageChecksRow.holds Try.pinned (OpenSpec.ofChange stageChecksSpec)

/-- ITS FALSE NEIGHBOUR: 'it returns false'. Refute it at one input. -/
def stageChecksWrong : ChangeSpec := { name := "stageChecks", fn := fun _ => fun
  | [d1, d2, d3] => { results := [.lit (.bool false)], args := [d1, d2, d3] }
  | _ => none }
def StageChecksWrongFalsely : Prop := stageChecksRow.holds Try.pinned (OpenSpec.ofChange stageChecksWrong)

/-- 'dancestudiolaw42.StageClears': WHATEVER THE INPUT: true; the input reads as it did. -/
def stageClearsSpec : ChangeSpec := { name := "stageClears", fn := fun _ => fun
  | [d1, d2] => { results := [.lit (.bool true)], args := [d1, d2] }
  | _ => none }
def stageClearsRow : OpenClaim := { program := "ytmfcgmdecindnaa", sum := "5a40561d6ccb4c4d62c080d17e97ab68b9009773a086ee5fdd02582ded9ead6f", func := "dancestudio/dancestudiolaw42.StageClears", spec := "stageClears", unfollowed := true, recurses := true, apart := false }
def StageClearsSaid : Prop := stageClearsRow.holds Try.pinned (OpenSpec.ofChange stageClearsSpec)

/-- ITS FALSE NEIGHBOUR: 'it returns false'. Refute it at one input. -/
def stageClearsWrong : ChangeSpec := { name := "stageClears", fn := fun _ => fun
  | [d1, d2] => { results := [.lit (.bool false)], args := [d1, d2] }
  | _ => none }
def StageClearsWrongFalsely : Prop := stageClearsRow.holds Try.pinned (OpenSpec.ofChange stageClearsWrong)

/-- 'dancestudiolaw42.StageClear': WHATEVER THE INPUT: true; the input reads as it did. -/
def stageClearSpec : ChangeSpec := { name := "stageClear", fn := fun _ => fun
  | [d1, d2, d3] => { results := [.lit (.bool true)], args := [d1, d2, d3] }
  | _ => none }
def stageClearRow : OpenClaim := { program := "ytmfcgmdecindnaa", sum := "5a40561d6ccb4c4d62c080d17e97ab68b9009773a086ee5fdd02582ded9ead6f", func := "dancestudio/dancestudiolaw42.StageClear", spec := "stageClear", unfollowed := true, recurses := true, apart := false }
def StageClearSaid : Prop := stageClearRow.holds Try.pinned (OpenSpec.ofChange stageClearSpec)

/-- ITS FALSE NEIGHBOUR: 'it returns false'. Refute it at one input. -/
def stageClearWrong : ChangeSpec := { name := "stageClear", fn := fun _ => fun
  | [d1, d2, d3] => { results := [.lit (.bool false)], args := [d1, d2, d3] }
  | _ => none }
def StageClearWrongFalsely : Prop := stageClearRow.holds Try.pinned (OpenSpec.ofChange stageClearWrong)

/-- 'dancestudiolaw42.StageEnds': WHATEVER THE INPUT: true; the input reads as it did. -/
def stageEndsSpec : ChangeSpec := { name := "stageEnds", fn := fun _ => fun
  | [d1, d2] => { results := [.lit (.bool true)], args := [d1, d2] }
  | _ => none }
def stageEndsRow : OpenClaim := { program := "ytmfcgmdecindnaa", sum := "5a40561d6ccb4c4d62c080d17e97ab68b9009773a086ee5fdd02582ded9ead6f", func := "dancestudio/dancestudiolaw42.StageEnds", spec := "stageEnds", unfollowed := true, recurses := true, apart := false }
def StageEndsSaid : Prop := stageEndsRow.holds Try.pinned (OpenSpec.ofChange stageEndsSpec)

/-- ITS FALSE NEIGHBOUR: 'it returns false'. Refute it at one input. -/
def stageEndsWrong : ChangeSpec := { name := "stageEnds", fn := fun _ => fun
  | [d1, d2] => { results := [.lit (.bool false)], args := [d1, d2] }
  | _ => none }
def StageEndsWrongFalsely : Prop := stageEndsRow.holds Try.pinned (OpenSpec.ofChange stageEndsWrong)

/-- 'dancestudiolaw42.StageSmaller': WHATEVER THE INPUT: true; the input reads as it did. -/
def stageSmallerSpec : ChangeSpec := { name := "stageSmaller", fn := fun _ => fun
  | [d1, d2] => { results := [.lit (.bool true)], args := [d1, d2] }
  | _ => none }
def stageSmallerRow : OpenClaim := { program := "ytmfcgmdecindnaa", sum := "5a40561d6ccb4c4d62c080d17e97ab68b9009773a086ee5fdd02582ded9ead6f", func := "dancestudio/dancestudiolaw42.StageSmaller", spec := "stageSmaller", unfollowed := true, recurses := true, apart := false }
def StageSmallerSaid : Prop := stageSmallerRow.holds Try.pinned (OpenSpec.ofChange stageSmallerSpec)

/-- ITS FALSE NEIGHBOUR: 'it returns false'. Refute it at one input. -/
def stageSmallerWrong : ChangeSpec := { name := "stageSmaller", fn := fun _ => fun
  | [d1, d2] => { results := [.lit (.bool false)], args := [d1, d2] }
  | _ => none }
def StageSmallerWrongFalsely : Prop := stageSmallerRow.holds Try.pinned (OpenSpec.ofChange stageSmallerWrong)

/-- 'dancestudiolaw42.StageMirrors': WHATEVER THE INPUT: true; the input reads as it did. -/
def stageMirrorsSpec : ChangeSpec := { name := "stageMirrors", fn := fun _ => fun
  | [d] => { results := [.lit (.bool true)], args := [d] }
  | _ => none }
def stageMirrorsRow : OpenClaim := { program := "ytmfcgmdecindnaa", sum := "5a40561d6ccb4c4d62c080d17e97ab68b9009773a086ee5fdd02582ded9ead6f", func := "dancestudio/dancestudiolaw42.StageMirrors", spec := "stageMirrors", unfollowed := true, recurses := true, apart := false }
def StageMirrorsSaid : Prop := stageMirrorsRow.holds Try.pinned (OpenSpec.ofChange stageMirrorsSpec)

/-- ITS FALSE NEIGHBOUR: 'it returns false'. Refute it at one input. -/
def stageMirrorsWrong : ChangeSpec := { name := "stageMirrors", fn := fun _ => fun
  | [d] => { results := [.lit (.bool false)], args := [d] }
  | _ => none }
def StageMirrorsWrongFalsely : Prop := stageMirrorsRow.holds Try.pinned (OpenSpec.ofChange stageMirrorsWrong)

/-- 'dancestudiolaw42.StageTwins': WHATEVER THE INPUT: true; the input reads as it did. -/
def stageTwinsSpec : ChangeSpec := { name := "stageTwins", fn := fun _ => fun
  | [d1, d2] => { results := [.lit (.bool true)], args := [d1, d2] }
  | _ => none }
def stageTwinsRow : OpenClaim := { program := "ytmfcgmdecindnaa", sum := "5a40561d6ccb4c4d62c080d17e97ab68b9009773a086ee5fdd02582ded9ead6f", func := "dancestudio/dancestudiolaw42.StageTwins", spec := "stageTwins", unfollowed := true, recurses := true, apart := false }
def StageTwinsSaid : Prop := stageTwinsRow.holds Try.pinned (OpenSpec.ofChange stageTwinsSpec)

/-- ITS FALSE NEIGHBOUR: 'it returns false'. Refute it at one input. -/
def stageTwinsWrong : ChangeSpec := { name := "stageTwins", fn := fun _ => fun
  | [d1, d2] => { results := [.lit (.bool false)], args := [d1, d2] }
  | _ => none }
def StageTwinsWrongFalsely : Prop := stageTwinsRow.holds Try.pinned (OpenSpec.ofChange stageTwinsWrong)

/- THE SECOND FORM. 'bulk': how many values and letters a reading holds, each counted each time it is reached (what is shared counts as often as it is met; a slice's spare places count too). A statement '..UptoSaid' is the law's where the arguments, and the package variables that the reading takes, are together of bulk at most 1048576: NARROWER than '..Said'. Prove '..Said' where nothing that the law and all that it calls make is longer than what came in: it says more and counts as full. Else prove '..UptoSaid'. A law counts once. -/
mutual
def uptoBulk {H : Type} : DataW H → Nat
  | .lit (.string bytes) => bytes.length + 1
  | .lit _ => 1
  | .nil => 1
  | .ptr d => uptoBulk d + 1
  | .slice elems spare => uptoBulkAll elems + uptoBulkAll spare + 1
  | .agg parts => uptoBulkAll parts + 1
  | .iface _ d => uptoBulk d + 1
  | .map entries => uptoBulkEntries entries + 1
  | .held _ => 1
def uptoBulkAll {H : Type} : List (DataW H) → Nat
  | [] => 0
  | d :: r => uptoBulk d + uptoBulkAll r
def uptoBulkEntries {H : Type} : List (Lit × DataW H) → Nat
  | [] => 0
  | x :: r => uptoBulkEntry x + uptoBulkEntries r
def uptoBulkEntry {H : Type} : Lit × DataW H → Nat
  | (.string bytes, d) => bytes.length + uptoBulk d + 1
  | (_, d) => uptoBulk d + 1
 end
def uptoSmall : (H : Type) → List (DataW H) → Bool := fun _ ds => decide (uptoBulkAll ds ≤ 1048576)
def OpenSpec.upto (s : _root_.Go.ChangeSpec) : _root_.Go.OpenSpec := { _root_.Go.OpenSpec.ofChange s with cond := some uptoSmall }

/-- 'dancestudiolaw42.StageChecks', WHERE WHAT IT READS IS OF BULK AT MOST 1048576: true; the input reads as it did. -/
def stageChecksUptoRow : OpenClaim := { program := "ytmfcgmdecindnaa", sum := "5a40561d6ccb4c4d62c080d17e97ab68b9009773a086ee5fdd02582ded9ead6f", func := "dancestudio/dancestudiolaw42.StageChecks", spec := "stageChecks", unfollowed := true, recurses := true, apart := false, narrowed := true }
def StageChecksUptoSaid : Prop := stageChecksUptoRow.holds Try.pinned (OpenSpec.upto stageChecksSpec)

/-- 'dancestudiolaw42.StageClears', WHERE WHAT IT READS IS OF BULK AT MOST 1048576: true; the input reads as it did. -/
def stageClearsUptoRow : OpenClaim := { program := "ytmfcgmdecindnaa", sum := "5a40561d6ccb4c4d62c080d17e97ab68b9009773a086ee5fdd02582ded9ead6f", func := "dancestudio/dancestudiolaw42.StageClears", spec := "stageClears", unfollowed := true, recurses := true, apart := false, narrowed := true }
def StageClearsUptoSaid : Prop := stageClearsUptoRow.holds Try.pinned (OpenSpec.upto stageClearsSpec)

/-- 'dancestudiolaw42.StageClear', WHERE WHAT IT READS IS OF BULK AT MOST 1048576: true; the input reads as it did. -/
def stageClearUptoRow : OpenClaim := { program := "ytmfcgmdecindnaa", sum := "5a40561d6ccb4c4d62c080d17e97ab68b9009773a086ee5fdd02582ded9ead6f", func := "dancestudio/dancestudiolaw42.StageClear", spec := "stageClear", unfollowed := true, recurses := true, apart := false, narrowed := true }
def StageClearUptoSaid : Prop := stageClearUptoRow.holds Try.pinned (OpenSpec.upto stageClearSpec)

/-- 'dancestudiolaw42.StageEnds', WHERE WHAT IT READS IS OF BULK AT MOST 1048576: true; the input reads as it did. -/
def stageEndsUptoRow : OpenClaim := { program := "ytmfcgmdecindnaa", sum := "5a40561d6ccb4c4d62c080d17e97ab68b9009773a086ee5fdd02582ded9ead6f", func := "dancestudio/dancestudiolaw42.StageEnds", spec := "stageEnds", unfollowed := true, recurses := true, apart := false, narrowed := true }
def StageEndsUptoSaid : Prop := stageEndsUptoRow.holds Try.pinned (OpenSpec.upto stageEndsSpec)

/-- 'dancestudiolaw42.StageSmaller', WHERE WHAT IT READS IS OF BULK AT MOST 1048576: true; the input reads as it did. -/
def stageSmallerUptoRow : OpenClaim := { program := "ytmfcgmdecindnaa", sum := "5a40561d6ccb4c4d62c080d17e97ab68b9009773a086ee5fdd02582ded9ead6f", func := "dancestudio/dancestudiolaw42.StageSmaller", spec := "stageSmaller", unfollowed := true, recurses := true, apart := false, narrowed := true }
def StageSmallerUptoSaid : Prop := stageSmallerUptoRow.holds Try.pinned (OpenSpec.upto stageSmallerSpec)

/-- 'dancestudiolaw42.StageMirrors', WHERE WHAT IT READS IS OF BULK AT MOST 1048576: true; the input reads as it did. -/
def stageMirrorsUptoRow : OpenClaim := { program := "ytmfcgmdecindnaa", sum := "5a40561d6ccb4c4d62c080d17e97ab68b9009773a086ee5fdd02582ded9ead6f", func := "dancestudio/dancestudiolaw42.StageMirrors", spec := "stageMirrors", unfollowed := true, recurses := true, apart := false, narrowed := true }
def StageMirrorsUptoSaid : Prop := stageMirrorsUptoRow.holds Try.pinned (OpenSpec.upto stageMirrorsSpec)

/-- 'dancestudiolaw42.StageTwins', WHERE WHAT IT READS IS OF BULK AT MOST 1048576: true; the input reads as it did. -/
def stageTwinsUptoRow : OpenClaim := { program := "ytmfcgmdecindnaa", sum := "5a40561d6ccb4c4d62c080d17e97ab68b9009773a086ee5fdd02582ded9ead6f", func := "dancestudio/dancestudiolaw42.StageTwins", spec := "stageTwins", unfollowed := true, recurses := true, apart := false, narrowed := true }
def StageTwinsUptoSaid : Prop := stageTwinsUptoRow.holds Try.pinned (OpenSpec.upto stageTwinsSpec)

end Rows
end Go.Proofs.Ytmfcgmdecindnaa
