/- slices.SortStableFunc of the numbers 0 .. N-1. -/
import Derived.Test.YtekbeaogiagidaaSoStable
namespace Go.Proofs.Ytekbeaogiagidaa.So
set_option linter.unusedVariables false
set_option linter.unusedSimpArgs false
open Go.Shelf Go.RowKit Go.Lib Go.Sort
set_option maxHeartbeats 8000000 in
set_option maxRecDepth 1000000 in
theorem sort_calls (w0 w : World) (blk cap N g : Nat) (cb : Array Value) (cf : Nat → Nat → Int) (pr : Nat → Nat → Prop) (R : Row w0 blk N) (eg : ∀ args w, (callFunc g args).run Try.prog w = .ok (.enter g args) w) (C : CmpOk g cb cf w0 blk N) (O : Ord cf N pr) (hw : At w0 blk (List.range' 0 N).toArray w) :
    Calls Try.prog 19 #[.slice (some ⟨blk, 0, none⟩) N cap, .func (.func g) #[] cb] w fun e w' => e = .returned (.tuple #[]) ∧ ∃ L, Seg pr 0 N L ∧ At w0 blk L.toArray w' := by
  have hfew := R.few
  have ST : Aside (Calls Try.prog 30 #[.slice (some ⟨blk, 0, none⟩) N cap, .int .i64 (N : Int), .func (.func g) #[] cb] w fun e w' => e = .returned (.tuple #[]) ∧ ∃ L, Seg pr 0 N L ∧ At w0 blk L.toArray w') := stable_calls w0 w blk cap N g cb cf pr R eg C O hw
  clear C O hw
  go_enter Try.func19, Try.ntmps19
  go_wp2_with fail
  go_at_call 30
  refine Calls.mono ST.out ?_
  rintro e' w2 ⟨rfl, hS⟩
  have S2 : Aside _ := hS
  clear hS
  go_wp2
  go_end0
  exact ⟨rfl, S2.out⟩
end Go.Proofs.Ytekbeaogiagidaa.So
