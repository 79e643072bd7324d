import Derived.Test.YteflngoiebgdaaaX0
import Derived.Test.YteflngoiebgdaaaX9
import Derived.Test.YteflngoiebgdaaaX26
import Derived.Test.YteflngoiebgdaaaX28
import Derived.Test.YteflngoiebgdaaaX29
import Derived.Test.YteflngoiebgdaaaX31
import Derived.Test.YteflngoiebgdaaaX33
namespace Go.Proofs.Yteflngoiebgdaaa.X
open Go.RowKit YteflngoiebgdaaaW.PrintWords YteflngoiebgdaaaW.PrintLast YteflngoiebgdaaaW.PrintMore
attribute [local go_sem] max2_int min2_int max_two min_two max_three min_three max_four min_four
set_option linter.unusedVariables false
set_option linter.unusedSimpArgs false

/-! ### dancestudiolaw44_awake: function 12 -/
theorem dancestudiolaw44_awake.unguard {P : Program} {ops : Array Oper} {rest : List Oper} {o : Oper} {a : Act} {Q : Exit → Act → World → Prop} {W : World} (hw : Region.wanted o (yielded ops a.tmps) = true) (h : wpList P ops Q ({ o with guard := none } :: rest) a W) : wpList P ops Q (o :: rest) a W := by
 unfold wpList at h ⊢
 rw [if_pos hw]
 rw [if_pos (show Region.wanted { o with guard := none } (yielded ops a.tmps) = true from rfl)] at h
 exact h

def dancestudiolaw44_awake.f (k : Nat)  : Option (Bool) := (dancestudiolaw44_two.f k).bind fun t265 => ((some (([300, 300] : List Int) : List Int)).bind fun y268 => ((collide_Check.f k t265 y268 ([] : List (S62))).bind fun t278 => (if t278 = 0 then ((dancestudiolaw44_first.f k 300 ([] : List (S62)) 1 0 1).bind fun t279 => (if t279 = true then ((dancestudiolaw44_first.f k 300 (([(⟨1, 0, 0, 0, (⟨2, 3⟩ : S60)⟩ : S62)] : List (S62))) (-1) 0 0).bind fun t280 => (if t280 = true then ((dancestudiolaw44_first.f k 300 (([(⟨0, 0, 1, 0, (⟨0, 1⟩ : S60)⟩ : S62)] : List (S62))) 1 0 1).bind fun t281 => (if t281 = true then ((dancestudiolaw44_first.f k 200 ([] : List (S62)) (-1) 0 0).bind fun t282 => (if t282 = true then ((collide_All.f k t265 y268 ([] : List (S62))).bind fun bt317 => ((collide_Room.f k t265 y268 ([] : List (S62)) 1).bind fun bt321 => ((collide_Room.f k t265 y268 ([] : List (S62)) 3).bind fun bt323 => (if 1 ≤ (t265.length : Int) then (if 1 ≤ (y268.length : Int) then ((collide_Room.f k (t265.take 1) (y268.take 1) ([] : List (S62)) 0).bind fun bt335 => ((dancestudioref44_Same.f k bt317.1 (([(⟨1, 0, 1⟩ : S30)] : List (S30)))).bind fun t340 => (if t340 = true then (if bt317.2 = 0 then (if bt321.1 = 490000 then (if bt321.2 = 0 then (if bt323.2 = 1 then (if bt335.2 = 6 then ((collide_Check.f k t265 (y268.take 1) ([] : List (S62))).bind fun t346 => (if t346 = 2 then ((collide_Check.f k t265 y268 (([(⟨1, 0, 1, 0, (⟨0, 0⟩ : S60)⟩ : S62)] : List (S62)))).bind fun t350 => (some (t350 == 31))) else (none))) else (none)) else (none)) else (none)) else (none)) else (none)) else (none)))) else (none)) else (none))))) else (none))) else (none))) else (none))) else (none))) else (none))))
theorem dancestudiolaw44_awake.mono : ∀ k, LeO (dancestudiolaw44_awake.f k ) (dancestudiolaw44_awake.f (k + 1) ) := by
 intro  k
 unfold dancestudiolaw44_awake.f
 repeat' first
   | (with_reducible exact collide_All.mono _ _ _ _)
   | (with_reducible exact collide_Check.mono _ _ _ _)
   | (with_reducible exact collide_Room.mono _ _ _ _ _)
   | (with_reducible exact dancestudiolaw44_first.mono _ _ _ _ _ _)
   | (with_reducible exact dancestudiolaw44_two.mono _)
   | (with_reducible exact dancestudioref44_Same.mono _ _ _)
   | (with_reducible exact LeO.refl _)
   | (with_reducible exact LeO.none _)
   | (with_reducible refine LeO.ite ?_ ?_)
   | (with_reducible refine LeO.bind ?_ (fun _ => ?_))
   | exact collide_All.mono _ _ _ _
   | exact collide_Check.mono _ _ _ _
   | exact collide_Room.mono _ _ _ _ _
   | exact dancestudiolaw44_first.mono _ _ _ _ _ _
   | exact dancestudiolaw44_two.mono _
   | exact dancestudioref44_Same.mono _ _ _
   | exact LeO.none _
   | refine LeO.ite ?_ ?_
   | refine LeO.bind ?_ (fun _ => ?_)
def dancestudiolaw44_awake.T10 : Bool × List (List Nat × List Nat) := (true, [([], []), ([0], [0]), ([], []), ([2], [2]), ([1, 3], [1, 3]), ([4], [4]), ([5], [5]), ([5], [5]), ([6, 4, 0, 1, 2, 3, 4, 5, 6], [6]), ([7, 8, 0, 1, 2, 3, 4, 5, 6, 7, 8], [7])])
def dancestudiolaw44_awake.B10 : List Nat := [0, 1, 0, 4, 15, 31, 63, 63, 127, 511]
theorem dancestudiolaw44_awake.tab10 : rtab .any (opsOf Try.f12 10) = dancestudiolaw44_awake.T10 := by kernel_rfl
theorem dancestudiolaw44_awake.bits10 : waitsOk dancestudiolaw44_awake.T10.2 dancestudiolaw44_awake.B10 = true := by kernel_rfl
set_option maxHeartbeats 8000000 in
set_option maxRecDepth 100000 in
theorem dancestudiolaw44_awake.calls (k : Nat)  (r : Bool) (w : World) (h : dancestudiolaw44_awake.f k  = some r) :
  Calls Try.prog 12 #[] w fun e w' => e = .returned (.bool r) ∧ Below w.heap.size w w' := by
 have hu30 := Try.underlying30
 have hu60 := Try.underlying60
 have hu62 := Try.underlying62
 have HB := am (Below.refl w.heap.size w)
 have H : ((dancestudiolaw44_two.f k).bind fun t265 => ((some (([300, 300] : List Int) : List Int)).bind fun y268 => ((collide_Check.f k t265 y268 ([] : List (S62))).bind fun t278 => (if t278 = 0 then ((dancestudiolaw44_first.f k 300 ([] : List (S62)) 1 0 1).bind fun t279 => (if t279 = true then ((dancestudiolaw44_first.f k 300 (([(⟨1, 0, 0, 0, (⟨2, 3⟩ : S60)⟩ : S62)] : List (S62))) (-1) 0 0).bind fun t280 => (if t280 = true then ((dancestudiolaw44_first.f k 300 (([(⟨0, 0, 1, 0, (⟨0, 1⟩ : S60)⟩ : S62)] : List (S62))) 1 0 1).bind fun t281 => (if t281 = true then ((dancestudiolaw44_first.f k 200 ([] : List (S62)) (-1) 0 0).bind fun t282 => (if t282 = true then ((collide_All.f k t265 y268 ([] : List (S62))).bind fun bt317 => ((collide_Room.f k t265 y268 ([] : List (S62)) 1).bind fun bt321 => ((collide_Room.f k t265 y268 ([] : List (S62)) 3).bind fun bt323 => (if 1 ≤ (t265.length : Int) then (if 1 ≤ (y268.length : Int) then ((collide_Room.f k (t265.take 1) (y268.take 1) ([] : List (S62)) 0).bind fun bt335 => ((dancestudioref44_Same.f k bt317.1 (([(⟨1, 0, 1⟩ : S30)] : List (S30)))).bind fun t340 => (if t340 = true then (if bt317.2 = 0 then (if bt321.1 = 490000 then (if bt321.2 = 0 then (if bt323.2 = 1 then (if bt335.2 = 6 then ((collide_Check.f k t265 (y268.take 1) ([] : List (S62))).bind fun t346 => (if t346 = 2 then ((collide_Check.f k t265 y268 (([(⟨1, 0, 1, 0, (⟨0, 0⟩ : S60)⟩ : S62)] : List (S62)))).bind fun t350 => (some (t350 == 31))) else (none))) else (none)) else (none)) else (none)) else (none)) else (none)) else (none)))) else (none)) else (none))))) else (none))) else (none))) else (none))) else (none))) else (none))))) = some r := h
 clear h
 replace H := Option.bind_eq_some_iff.mp H
 obtain ⟨t265, A10, H⟩ := H
 replace H : ((some (([300, 300] : List Int) : List Int)).bind fun y268 => ((collide_Check.f k t265 y268 ([] : List (S62))).bind fun t278 => (if t278 = 0 then ((dancestudiolaw44_first.f k 300 ([] : List (S62)) 1 0 1).bind fun t279 => (if t279 = true then ((dancestudiolaw44_first.f k 300 (([(⟨1, 0, 0, 0, (⟨2, 3⟩ : S60)⟩ : S62)] : List (S62))) (-1) 0 0).bind fun t280 => (if t280 = true then ((dancestudiolaw44_first.f k 300 (([(⟨0, 0, 1, 0, (⟨0, 1⟩ : S60)⟩ : S62)] : List (S62))) 1 0 1).bind fun t281 => (if t281 = true then ((dancestudiolaw44_first.f k 200 ([] : List (S62)) (-1) 0 0).bind fun t282 => (if t282 = true then ((collide_All.f k t265 y268 ([] : List (S62))).bind fun bt317 => ((collide_Room.f k t265 y268 ([] : List (S62)) 1).bind fun bt321 => ((collide_Room.f k t265 y268 ([] : List (S62)) 3).bind fun bt323 => (if 1 ≤ (t265.length : Int) then (if 1 ≤ (y268.length : Int) then ((collide_Room.f k (t265.take 1) (y268.take 1) ([] : List (S62)) 0).bind fun bt335 => ((dancestudioref44_Same.f k bt317.1 (([(⟨1, 0, 1⟩ : S30)] : List (S30)))).bind fun t340 => (if t340 = true then (if bt317.2 = 0 then (if bt321.1 = 490000 then (if bt321.2 = 0 then (if bt323.2 = 1 then (if bt335.2 = 6 then ((collide_Check.f k t265 (y268.take 1) ([] : List (S62))).bind fun t346 => (if t346 = 2 then ((collide_Check.f k t265 y268 (([(⟨1, 0, 1, 0, (⟨0, 0⟩ : S60)⟩ : S62)] : List (S62)))).bind fun t350 => (some (t350 == 31))) else (none))) else (none)) else (none)) else (none)) else (none)) else (none)) else (none)))) else (none)) else (none))))) else (none))) else (none))) else (none))) else (none))) else (none)))) = some r := H
 have A1 := am A10
 clear A10
 obtain ⟨y268, hy268⟩ : ∃ y_ : List Int, y_ = (([300, 300] : List Int)) := ⟨_, rfl⟩
 replace H : ((collide_Check.f k t265 y268 ([] : List (S62))).bind fun t278 => (if t278 = 0 then ((dancestudiolaw44_first.f k 300 ([] : List (S62)) 1 0 1).bind fun t279 => (if t279 = true then ((dancestudiolaw44_first.f k 300 (([(⟨1, 0, 0, 0, (⟨2, 3⟩ : S60)⟩ : S62)] : List (S62))) (-1) 0 0).bind fun t280 => (if t280 = true then ((dancestudiolaw44_first.f k 300 (([(⟨0, 0, 1, 0, (⟨0, 1⟩ : S60)⟩ : S62)] : List (S62))) 1 0 1).bind fun t281 => (if t281 = true then ((dancestudiolaw44_first.f k 200 ([] : List (S62)) (-1) 0 0).bind fun t282 => (if t282 = true then ((collide_All.f k t265 y268 ([] : List (S62))).bind fun bt317 => ((collide_Room.f k t265 y268 ([] : List (S62)) 1).bind fun bt321 => ((collide_Room.f k t265 y268 ([] : List (S62)) 3).bind fun bt323 => (if 1 ≤ (t265.length : Int) then (if 1 ≤ (y268.length : Int) then ((collide_Room.f k (t265.take 1) (y268.take 1) ([] : List (S62)) 0).bind fun bt335 => ((dancestudioref44_Same.f k bt317.1 (([(⟨1, 0, 1⟩ : S30)] : List (S30)))).bind fun t340 => (if t340 = true then (if bt317.2 = 0 then (if bt321.1 = 490000 then (if bt321.2 = 0 then (if bt323.2 = 1 then (if bt335.2 = 6 then ((collide_Check.f k t265 (y268.take 1) ([] : List (S62))).bind fun t346 => (if t346 = 2 then ((collide_Check.f k t265 y268 (([(⟨1, 0, 1, 0, (⟨0, 0⟩ : S60)⟩ : S62)] : List (S62)))).bind fun t350 => (some (t350 == 31))) else (none))) else (none)) else (none)) else (none)) else (none)) else (none)) else (none)))) else (none)) else (none))))) else (none))) else (none))) else (none))) else (none))) else (none))) = some r := by first | (rw [hy268]; with_reducible exact H) | (have H2_ := (Option.bind_some _ _).symm.trans H; rw [hy268]; with_reducible exact H2_) | (have H2_ := (Option.bind_some _ _).symm.trans H; with_reducible exact H2_) | with_reducible exact H | (rw [hy268]; exact H) | exact H
 have Ny268 := am hy268
 clear hy268
 obtain ⟨y272, hy272⟩ : ∃ y_ : List (S62), y_ = (([(⟨1, 0, 0, 0, (⟨2, 3⟩ : S60)⟩ : S62)] : List (S62))) := ⟨_, rfl⟩
 replace H : ((collide_Check.f k t265 y268 ([] : List (S62))).bind fun t278 => (if t278 = 0 then ((dancestudiolaw44_first.f k 300 ([] : List (S62)) 1 0 1).bind fun t279 => (if t279 = true then ((dancestudiolaw44_first.f k 300 y272 (-1) 0 0).bind fun t280 => (if t280 = true then ((dancestudiolaw44_first.f k 300 (([(⟨0, 0, 1, 0, (⟨0, 1⟩ : S60)⟩ : S62)] : List (S62))) 1 0 1).bind fun t281 => (if t281 = true then ((dancestudiolaw44_first.f k 200 ([] : List (S62)) (-1) 0 0).bind fun t282 => (if t282 = true then ((collide_All.f k t265 y268 ([] : List (S62))).bind fun bt317 => ((collide_Room.f k t265 y268 ([] : List (S62)) 1).bind fun bt321 => ((collide_Room.f k t265 y268 ([] : List (S62)) 3).bind fun bt323 => (if 1 ≤ (t265.length : Int) then (if 1 ≤ (y268.length : Int) then ((collide_Room.f k (t265.take 1) (y268.take 1) ([] : List (S62)) 0).bind fun bt335 => ((dancestudioref44_Same.f k bt317.1 (([(⟨1, 0, 1⟩ : S30)] : List (S30)))).bind fun t340 => (if t340 = true then (if bt317.2 = 0 then (if bt321.1 = 490000 then (if bt321.2 = 0 then (if bt323.2 = 1 then (if bt335.2 = 6 then ((collide_Check.f k t265 (y268.take 1) ([] : List (S62))).bind fun t346 => (if t346 = 2 then ((collide_Check.f k t265 y268 (([(⟨1, 0, 1, 0, (⟨0, 0⟩ : S60)⟩ : S62)] : List (S62)))).bind fun t350 => (some (t350 == 31))) else (none))) else (none)) else (none)) else (none)) else (none)) else (none)) else (none)))) else (none)) else (none))))) else (none))) else (none))) else (none))) else (none))) else (none))) = some r := by first | (rw [hy272]; with_reducible exact H) | (have H2_ := (Option.bind_some _ _).symm.trans H; rw [hy272]; with_reducible exact H2_) | (have H2_ := (Option.bind_some _ _).symm.trans H; with_reducible exact H2_) | with_reducible exact H | (rw [hy272]; exact H) | exact H
 have Ny272 := am hy272
 clear hy272
 obtain ⟨y275, hy275⟩ : ∃ y_ : List (S62), y_ = (([(⟨0, 0, 1, 0, (⟨0, 1⟩ : S60)⟩ : S62)] : List (S62))) := ⟨_, rfl⟩
 replace H : ((collide_Check.f k t265 y268 ([] : List (S62))).bind fun t278 => (if t278 = 0 then ((dancestudiolaw44_first.f k 300 ([] : List (S62)) 1 0 1).bind fun t279 => (if t279 = true then ((dancestudiolaw44_first.f k 300 y272 (-1) 0 0).bind fun t280 => (if t280 = true then ((dancestudiolaw44_first.f k 300 y275 1 0 1).bind fun t281 => (if t281 = true then ((dancestudiolaw44_first.f k 200 ([] : List (S62)) (-1) 0 0).bind fun t282 => (if t282 = true then ((collide_All.f k t265 y268 ([] : List (S62))).bind fun bt317 => ((collide_Room.f k t265 y268 ([] : List (S62)) 1).bind fun bt321 => ((collide_Room.f k t265 y268 ([] : List (S62)) 3).bind fun bt323 => (if 1 ≤ (t265.length : Int) then (if 1 ≤ (y268.length : Int) then ((collide_Room.f k (t265.take 1) (y268.take 1) ([] : List (S62)) 0).bind fun bt335 => ((dancestudioref44_Same.f k bt317.1 (([(⟨1, 0, 1⟩ : S30)] : List (S30)))).bind fun t340 => (if t340 = true then (if bt317.2 = 0 then (if bt321.1 = 490000 then (if bt321.2 = 0 then (if bt323.2 = 1 then (if bt335.2 = 6 then ((collide_Check.f k t265 (y268.take 1) ([] : List (S62))).bind fun t346 => (if t346 = 2 then ((collide_Check.f k t265 y268 (([(⟨1, 0, 1, 0, (⟨0, 0⟩ : S60)⟩ : S62)] : List (S62)))).bind fun t350 => (some (t350 == 31))) else (none))) else (none)) else (none)) else (none)) else (none)) else (none)) else (none)))) else (none)) else (none))))) else (none))) else (none))) else (none))) else (none))) else (none))) = some r := by first | (rw [hy275]; with_reducible exact H) | (have H2_ := (Option.bind_some _ _).symm.trans H; rw [hy275]; with_reducible exact H2_) | (have H2_ := (Option.bind_some _ _).symm.trans H; with_reducible exact H2_) | with_reducible exact H | (rw [hy275]; exact H) | exact H
 have Ny275 := am hy275
 clear hy275
 replace H := Option.bind_eq_some_iff.mp H
 obtain ⟨t278, A20, H⟩ := H
 replace H : (if t278 = 0 then ((dancestudiolaw44_first.f k 300 ([] : List (S62)) 1 0 1).bind fun t279 => (if t279 = true then ((dancestudiolaw44_first.f k 300 y272 (-1) 0 0).bind fun t280 => (if t280 = true then ((dancestudiolaw44_first.f k 300 y275 1 0 1).bind fun t281 => (if t281 = true then ((dancestudiolaw44_first.f k 200 ([] : List (S62)) (-1) 0 0).bind fun t282 => (if t282 = true then ((collide_All.f k t265 y268 ([] : List (S62))).bind fun bt317 => ((collide_Room.f k t265 y268 ([] : List (S62)) 1).bind fun bt321 => ((collide_Room.f k t265 y268 ([] : List (S62)) 3).bind fun bt323 => (if 1 ≤ (t265.length : Int) then (if 1 ≤ (y268.length : Int) then ((collide_Room.f k (t265.take 1) (y268.take 1) ([] : List (S62)) 0).bind fun bt335 => ((dancestudioref44_Same.f k bt317.1 (([(⟨1, 0, 1⟩ : S30)] : List (S30)))).bind fun t340 => (if t340 = true then (if bt317.2 = 0 then (if bt321.1 = 490000 then (if bt321.2 = 0 then (if bt323.2 = 1 then (if bt335.2 = 6 then ((collide_Check.f k t265 (y268.take 1) ([] : List (S62))).bind fun t346 => (if t346 = 2 then ((collide_Check.f k t265 y268 (([(⟨1, 0, 1, 0, (⟨0, 0⟩ : S60)⟩ : S62)] : List (S62)))).bind fun t350 => (some (t350 == 31))) else (none))) else (none)) else (none)) else (none)) else (none)) else (none)) else (none)))) else (none)) else (none))))) else (none))) else (none))) else (none))) else (none))) else (none)) = some r := H
 have A2 := am A20
 clear A20
 by_cases c3 : t278 = 0
 ·
  rw [if_pos c3] at H
  have c3b0 : (t278 == 0) = true := beq_iff_eq.mpr c3
  have c3b1 : (t278 != 0) = false := bne_eq_false_iff_eq.mpr c3
  clear c3
  replace H := Option.bind_eq_some_iff.mp H
  obtain ⟨t279, A40, H⟩ := H
  replace H : (if t279 = true then ((dancestudiolaw44_first.f k 300 y272 (-1) 0 0).bind fun t280 => (if t280 = true then ((dancestudiolaw44_first.f k 300 y275 1 0 1).bind fun t281 => (if t281 = true then ((dancestudiolaw44_first.f k 200 ([] : List (S62)) (-1) 0 0).bind fun t282 => (if t282 = true then ((collide_All.f k t265 y268 ([] : List (S62))).bind fun bt317 => ((collide_Room.f k t265 y268 ([] : List (S62)) 1).bind fun bt321 => ((collide_Room.f k t265 y268 ([] : List (S62)) 3).bind fun bt323 => (if 1 ≤ (t265.length : Int) then (if 1 ≤ (y268.length : Int) then ((collide_Room.f k (t265.take 1) (y268.take 1) ([] : List (S62)) 0).bind fun bt335 => ((dancestudioref44_Same.f k bt317.1 (([(⟨1, 0, 1⟩ : S30)] : List (S30)))).bind fun t340 => (if t340 = true then (if bt317.2 = 0 then (if bt321.1 = 490000 then (if bt321.2 = 0 then (if bt323.2 = 1 then (if bt335.2 = 6 then ((collide_Check.f k t265 (y268.take 1) ([] : List (S62))).bind fun t346 => (if t346 = 2 then ((collide_Check.f k t265 y268 (([(⟨1, 0, 1, 0, (⟨0, 0⟩ : S60)⟩ : S62)] : List (S62)))).bind fun t350 => (some (t350 == 31))) else (none))) else (none)) else (none)) else (none)) else (none)) else (none)) else (none)))) else (none)) else (none))))) else (none))) else (none))) else (none))) else (none)) = some r := H
  have A4 := am A40
  clear A40
  by_cases c5 : t279 = true
  ·
   subst c5
   have H1 : ((dancestudiolaw44_first.f k 300 y272 (-1) 0 0).bind fun t280 => (if t280 = true then ((dancestudiolaw44_first.f k 300 y275 1 0 1).bind fun t281 => (if t281 = true then ((dancestudiolaw44_first.f k 200 ([] : List (S62)) (-1) 0 0).bind fun t282 => (if t282 = true then ((collide_All.f k t265 y268 ([] : List (S62))).bind fun bt317 => ((collide_Room.f k t265 y268 ([] : List (S62)) 1).bind fun bt321 => ((collide_Room.f k t265 y268 ([] : List (S62)) 3).bind fun bt323 => (if 1 ≤ (t265.length : Int) then (if 1 ≤ (y268.length : Int) then ((collide_Room.f k (t265.take 1) (y268.take 1) ([] : List (S62)) 0).bind fun bt335 => ((dancestudioref44_Same.f k bt317.1 (([(⟨1, 0, 1⟩ : S30)] : List (S30)))).bind fun t340 => (if t340 = true then (if bt317.2 = 0 then (if bt321.1 = 490000 then (if bt321.2 = 0 then (if bt323.2 = 1 then (if bt335.2 = 6 then ((collide_Check.f k t265 (y268.take 1) ([] : List (S62))).bind fun t346 => (if t346 = 2 then ((collide_Check.f k t265 y268 (([(⟨1, 0, 1, 0, (⟨0, 0⟩ : S60)⟩ : S62)] : List (S62)))).bind fun t350 => (some (t350 == 31))) else (none))) else (none)) else (none)) else (none)) else (none)) else (none)) else (none)))) else (none)) else (none))))) else (none))) else (none))) else (none))) = some r := by rw [if_pos rfl] at H; exact H
   clear H
   have H := H1
   clear H1
   replace H := Option.bind_eq_some_iff.mp H
   obtain ⟨t280, A60, H⟩ := H
   replace H : (if t280 = true then ((dancestudiolaw44_first.f k 300 y275 1 0 1).bind fun t281 => (if t281 = true then ((dancestudiolaw44_first.f k 200 ([] : List (S62)) (-1) 0 0).bind fun t282 => (if t282 = true then ((collide_All.f k t265 y268 ([] : List (S62))).bind fun bt317 => ((collide_Room.f k t265 y268 ([] : List (S62)) 1).bind fun bt321 => ((collide_Room.f k t265 y268 ([] : List (S62)) 3).bind fun bt323 => (if 1 ≤ (t265.length : Int) then (if 1 ≤ (y268.length : Int) then ((collide_Room.f k (t265.take 1) (y268.take 1) ([] : List (S62)) 0).bind fun bt335 => ((dancestudioref44_Same.f k bt317.1 (([(⟨1, 0, 1⟩ : S30)] : List (S30)))).bind fun t340 => (if t340 = true then (if bt317.2 = 0 then (if bt321.1 = 490000 then (if bt321.2 = 0 then (if bt323.2 = 1 then (if bt335.2 = 6 then ((collide_Check.f k t265 (y268.take 1) ([] : List (S62))).bind fun t346 => (if t346 = 2 then ((collide_Check.f k t265 y268 (([(⟨1, 0, 1, 0, (⟨0, 0⟩ : S60)⟩ : S62)] : List (S62)))).bind fun t350 => (some (t350 == 31))) else (none))) else (none)) else (none)) else (none)) else (none)) else (none)) else (none)))) else (none)) else (none))))) else (none))) else (none))) else (none)) = some r := H
   have A6 := am A60
   clear A60
   by_cases c7 : t280 = true
   ·
    subst c7
    have H1 : ((dancestudiolaw44_first.f k 300 y275 1 0 1).bind fun t281 => (if t281 = true then ((dancestudiolaw44_first.f k 200 ([] : List (S62)) (-1) 0 0).bind fun t282 => (if t282 = true then ((collide_All.f k t265 y268 ([] : List (S62))).bind fun bt317 => ((collide_Room.f k t265 y268 ([] : List (S62)) 1).bind fun bt321 => ((collide_Room.f k t265 y268 ([] : List (S62)) 3).bind fun bt323 => (if 1 ≤ (t265.length : Int) then (if 1 ≤ (y268.length : Int) then ((collide_Room.f k (t265.take 1) (y268.take 1) ([] : List (S62)) 0).bind fun bt335 => ((dancestudioref44_Same.f k bt317.1 (([(⟨1, 0, 1⟩ : S30)] : List (S30)))).bind fun t340 => (if t340 = true then (if bt317.2 = 0 then (if bt321.1 = 490000 then (if bt321.2 = 0 then (if bt323.2 = 1 then (if bt335.2 = 6 then ((collide_Check.f k t265 (y268.take 1) ([] : List (S62))).bind fun t346 => (if t346 = 2 then ((collide_Check.f k t265 y268 (([(⟨1, 0, 1, 0, (⟨0, 0⟩ : S60)⟩ : S62)] : List (S62)))).bind fun t350 => (some (t350 == 31))) else (none))) else (none)) else (none)) else (none)) else (none)) else (none)) else (none)))) else (none)) else (none))))) else (none))) else (none))) = some r := by rw [if_pos rfl] at H; exact H
    clear H
    have H := H1
    clear H1
    replace H := Option.bind_eq_some_iff.mp H
    obtain ⟨t281, A80, H⟩ := H
    replace H : (if t281 = true then ((dancestudiolaw44_first.f k 200 ([] : List (S62)) (-1) 0 0).bind fun t282 => (if t282 = true then ((collide_All.f k t265 y268 ([] : List (S62))).bind fun bt317 => ((collide_Room.f k t265 y268 ([] : List (S62)) 1).bind fun bt321 => ((collide_Room.f k t265 y268 ([] : List (S62)) 3).bind fun bt323 => (if 1 ≤ (t265.length : Int) then (if 1 ≤ (y268.length : Int) then ((collide_Room.f k (t265.take 1) (y268.take 1) ([] : List (S62)) 0).bind fun bt335 => ((dancestudioref44_Same.f k bt317.1 (([(⟨1, 0, 1⟩ : S30)] : List (S30)))).bind fun t340 => (if t340 = true then (if bt317.2 = 0 then (if bt321.1 = 490000 then (if bt321.2 = 0 then (if bt323.2 = 1 then (if bt335.2 = 6 then ((collide_Check.f k t265 (y268.take 1) ([] : List (S62))).bind fun t346 => (if t346 = 2 then ((collide_Check.f k t265 y268 (([(⟨1, 0, 1, 0, (⟨0, 0⟩ : S60)⟩ : S62)] : List (S62)))).bind fun t350 => (some (t350 == 31))) else (none))) else (none)) else (none)) else (none)) else (none)) else (none)) else (none)))) else (none)) else (none))))) else (none))) else (none)) = some r := H
    have A8 := am A80
    clear A80
    by_cases c9 : t281 = true
    ·
     subst c9
     have H1 : ((dancestudiolaw44_first.f k 200 ([] : List (S62)) (-1) 0 0).bind fun t282 => (if t282 = true then ((collide_All.f k t265 y268 ([] : List (S62))).bind fun bt317 => ((collide_Room.f k t265 y268 ([] : List (S62)) 1).bind fun bt321 => ((collide_Room.f k t265 y268 ([] : List (S62)) 3).bind fun bt323 => (if 1 ≤ (t265.length : Int) then (if 1 ≤ (y268.length : Int) then ((collide_Room.f k (t265.take 1) (y268.take 1) ([] : List (S62)) 0).bind fun bt335 => ((dancestudioref44_Same.f k bt317.1 (([(⟨1, 0, 1⟩ : S30)] : List (S30)))).bind fun t340 => (if t340 = true then (if bt317.2 = 0 then (if bt321.1 = 490000 then (if bt321.2 = 0 then (if bt323.2 = 1 then (if bt335.2 = 6 then ((collide_Check.f k t265 (y268.take 1) ([] : List (S62))).bind fun t346 => (if t346 = 2 then ((collide_Check.f k t265 y268 (([(⟨1, 0, 1, 0, (⟨0, 0⟩ : S60)⟩ : S62)] : List (S62)))).bind fun t350 => (some (t350 == 31))) else (none))) else (none)) else (none)) else (none)) else (none)) else (none)) else (none)))) else (none)) else (none))))) else (none))) = some r := by rw [if_pos rfl] at H; exact H
     clear H
     have H := H1
     clear H1
     replace H := Option.bind_eq_some_iff.mp H
     obtain ⟨t282, A100, H⟩ := H
     replace H : (if t282 = true then ((collide_All.f k t265 y268 ([] : List (S62))).bind fun bt317 => ((collide_Room.f k t265 y268 ([] : List (S62)) 1).bind fun bt321 => ((collide_Room.f k t265 y268 ([] : List (S62)) 3).bind fun bt323 => (if 1 ≤ (t265.length : Int) then (if 1 ≤ (y268.length : Int) then ((collide_Room.f k (t265.take 1) (y268.take 1) ([] : List (S62)) 0).bind fun bt335 => ((dancestudioref44_Same.f k bt317.1 (([(⟨1, 0, 1⟩ : S30)] : List (S30)))).bind fun t340 => (if t340 = true then (if bt317.2 = 0 then (if bt321.1 = 490000 then (if bt321.2 = 0 then (if bt323.2 = 1 then (if bt335.2 = 6 then ((collide_Check.f k t265 (y268.take 1) ([] : List (S62))).bind fun t346 => (if t346 = 2 then ((collide_Check.f k t265 y268 (([(⟨1, 0, 1, 0, (⟨0, 0⟩ : S60)⟩ : S62)] : List (S62)))).bind fun t350 => (some (t350 == 31))) else (none))) else (none)) else (none)) else (none)) else (none)) else (none)) else (none)))) else (none)) else (none))))) else (none)) = some r := H
     have A10 := am A100
     clear A100
     by_cases c11 : t282 = true
     ·
      subst c11
      have H1 : ((collide_All.f k t265 y268 ([] : List (S62))).bind fun bt317 => ((collide_Room.f k t265 y268 ([] : List (S62)) 1).bind fun bt321 => ((collide_Room.f k t265 y268 ([] : List (S62)) 3).bind fun bt323 => (if 1 ≤ (t265.length : Int) then (if 1 ≤ (y268.length : Int) then ((collide_Room.f k (t265.take 1) (y268.take 1) ([] : List (S62)) 0).bind fun bt335 => ((dancestudioref44_Same.f k bt317.1 (([(⟨1, 0, 1⟩ : S30)] : List (S30)))).bind fun t340 => (if t340 = true then (if bt317.2 = 0 then (if bt321.1 = 490000 then (if bt321.2 = 0 then (if bt323.2 = 1 then (if bt335.2 = 6 then ((collide_Check.f k t265 (y268.take 1) ([] : List (S62))).bind fun t346 => (if t346 = 2 then ((collide_Check.f k t265 y268 (([(⟨1, 0, 1, 0, (⟨0, 0⟩ : S60)⟩ : S62)] : List (S62)))).bind fun t350 => (some (t350 == 31))) else (none))) else (none)) else (none)) else (none)) else (none)) else (none)) else (none)))) else (none)) else (none))))) = some r := by rw [if_pos rfl] at H; exact H
      clear H
      have H := H1
      clear H1
      replace H := Option.bind_eq_some_iff.mp H
      obtain ⟨⟨t317, t318⟩, A120, H⟩ := H
      replace H : ((collide_Room.f k t265 y268 ([] : List (S62)) 1).bind fun bt321 => ((collide_Room.f k t265 y268 ([] : List (S62)) 3).bind fun bt323 => (if 1 ≤ (t265.length : Int) then (if 1 ≤ (y268.length : Int) then ((collide_Room.f k (t265.take 1) (y268.take 1) ([] : List (S62)) 0).bind fun bt335 => ((dancestudioref44_Same.f k t317 (([(⟨1, 0, 1⟩ : S30)] : List (S30)))).bind fun t340 => (if t340 = true then (if t318 = 0 then (if bt321.1 = 490000 then (if bt321.2 = 0 then (if bt323.2 = 1 then (if bt335.2 = 6 then ((collide_Check.f k t265 (y268.take 1) ([] : List (S62))).bind fun t346 => (if t346 = 2 then ((collide_Check.f k t265 y268 (([(⟨1, 0, 1, 0, (⟨0, 0⟩ : S60)⟩ : S62)] : List (S62)))).bind fun t350 => (some (t350 == 31))) else (none))) else (none)) else (none)) else (none)) else (none)) else (none)) else (none)))) else (none)) else (none)))) = some r := H
      have A12 := am A120
      clear A120
      replace H := Option.bind_eq_some_iff.mp H
      obtain ⟨⟨t321, t322⟩, A130, H⟩ := H
      replace H : ((collide_Room.f k t265 y268 ([] : List (S62)) 3).bind fun bt323 => (if 1 ≤ (t265.length : Int) then (if 1 ≤ (y268.length : Int) then ((collide_Room.f k (t265.take 1) (y268.take 1) ([] : List (S62)) 0).bind fun bt335 => ((dancestudioref44_Same.f k t317 (([(⟨1, 0, 1⟩ : S30)] : List (S30)))).bind fun t340 => (if t340 = true then (if t318 = 0 then (if t321 = 490000 then (if t322 = 0 then (if bt323.2 = 1 then (if bt335.2 = 6 then ((collide_Check.f k t265 (y268.take 1) ([] : List (S62))).bind fun t346 => (if t346 = 2 then ((collide_Check.f k t265 y268 (([(⟨1, 0, 1, 0, (⟨0, 0⟩ : S60)⟩ : S62)] : List (S62)))).bind fun t350 => (some (t350 == 31))) else (none))) else (none)) else (none)) else (none)) else (none)) else (none)) else (none)))) else (none)) else (none))) = some r := H
      have A13 := am A130
      clear A130
      replace H := Option.bind_eq_some_iff.mp H
      obtain ⟨⟨t323, t324⟩, A140, H⟩ := H
      replace H : (if 1 ≤ (t265.length : Int) then (if 1 ≤ (y268.length : Int) then ((collide_Room.f k (t265.take 1) (y268.take 1) ([] : List (S62)) 0).bind fun bt335 => ((dancestudioref44_Same.f k t317 (([(⟨1, 0, 1⟩ : S30)] : List (S30)))).bind fun t340 => (if t340 = true then (if t318 = 0 then (if t321 = 490000 then (if t322 = 0 then (if t324 = 1 then (if bt335.2 = 6 then ((collide_Check.f k t265 (y268.take 1) ([] : List (S62))).bind fun t346 => (if t346 = 2 then ((collide_Check.f k t265 y268 (([(⟨1, 0, 1, 0, (⟨0, 0⟩ : S60)⟩ : S62)] : List (S62)))).bind fun t350 => (some (t350 == 31))) else (none))) else (none)) else (none)) else (none)) else (none)) else (none)) else (none)))) else (none)) else (none)) = some r := H
      have A14 := am A140
      clear A140
      by_cases c15 : 1 ≤ (t265.length : Int); rotate_left
      · rw [if_neg c15] at H; exact absurd H (by simp)
      rw [if_pos c15] at H
      have c15b0 := eq_true c15
      have c15b1 : decide (1 ≤ (t265.length : Int)) = true := decide_eq_true c15
      clear c15
      obtain ⟨y325, hy325⟩ : ∃ y_ : List (S43), y_ = (t265.take 1) := ⟨_, rfl⟩
      replace H : (if 1 ≤ (y268.length : Int) then ((collide_Room.f k y325 (y268.take 1) ([] : List (S62)) 0).bind fun bt335 => ((dancestudioref44_Same.f k t317 (([(⟨1, 0, 1⟩ : S30)] : List (S30)))).bind fun t340 => (if t340 = true then (if t318 = 0 then (if t321 = 490000 then (if t322 = 0 then (if t324 = 1 then (if bt335.2 = 6 then ((collide_Check.f k t265 (y268.take 1) ([] : List (S62))).bind fun t346 => (if t346 = 2 then ((collide_Check.f k t265 y268 (([(⟨1, 0, 1, 0, (⟨0, 0⟩ : S60)⟩ : S62)] : List (S62)))).bind fun t350 => (some (t350 == 31))) else (none))) else (none)) else (none)) else (none)) else (none)) else (none)) else (none)))) else (none)) = some r := by first | (rw [hy325]; with_reducible exact H) | (have H2_ := (Option.bind_some _ _).symm.trans H; rw [hy325]; with_reducible exact H2_) | (have H2_ := (Option.bind_some _ _).symm.trans H; with_reducible exact H2_) | with_reducible exact H | (rw [hy325]; exact H) | exact H
      have Ny325 := am hy325
      clear hy325
      by_cases c16 : 1 ≤ (y268.length : Int); rotate_left
      · rw [if_neg c16] at H; exact absurd H (by simp)
      rw [if_pos c16] at H
      have c16b0 := eq_true c16
      have c16b1 : decide (1 ≤ (y268.length : Int)) = true := decide_eq_true c16
      clear c16
      obtain ⟨y330, hy330⟩ : ∃ y_ : List Int, y_ = (y268.take 1) := ⟨_, rfl⟩
      replace H : ((collide_Room.f k y325 y330 ([] : List (S62)) 0).bind fun bt335 => ((dancestudioref44_Same.f k t317 (([(⟨1, 0, 1⟩ : S30)] : List (S30)))).bind fun t340 => (if t340 = true then (if t318 = 0 then (if t321 = 490000 then (if t322 = 0 then (if t324 = 1 then (if bt335.2 = 6 then ((collide_Check.f k t265 (y268.take 1) ([] : List (S62))).bind fun t346 => (if t346 = 2 then ((collide_Check.f k t265 y268 (([(⟨1, 0, 1, 0, (⟨0, 0⟩ : S60)⟩ : S62)] : List (S62)))).bind fun t350 => (some (t350 == 31))) else (none))) else (none)) else (none)) else (none)) else (none)) else (none)) else (none)))) = some r := by first | (rw [hy330]; with_reducible exact H) | (have H2_ := (Option.bind_some _ _).symm.trans H; rw [hy330]; with_reducible exact H2_) | (have H2_ := (Option.bind_some _ _).symm.trans H; with_reducible exact H2_) | with_reducible exact H | (rw [hy330]; exact H) | exact H
      have Ny330 := am hy330
      clear hy330
      replace H := Option.bind_eq_some_iff.mp H
      obtain ⟨⟨t335, t336⟩, A170, H⟩ := H
      replace H : ((dancestudioref44_Same.f k t317 (([(⟨1, 0, 1⟩ : S30)] : List (S30)))).bind fun t340 => (if t340 = true then (if t318 = 0 then (if t321 = 490000 then (if t322 = 0 then (if t324 = 1 then (if t336 = 6 then ((collide_Check.f k t265 (y268.take 1) ([] : List (S62))).bind fun t346 => (if t346 = 2 then ((collide_Check.f k t265 y268 (([(⟨1, 0, 1, 0, (⟨0, 0⟩ : S60)⟩ : S62)] : List (S62)))).bind fun t350 => (some (t350 == 31))) else (none))) else (none)) else (none)) else (none)) else (none)) else (none)) else (none))) = some r := H
      have A17 := am A170
      clear A170
      obtain ⟨y337, hy337⟩ : ∃ y_ : List (S30), y_ = (([(⟨1, 0, 1⟩ : S30)] : List (S30))) := ⟨_, rfl⟩
      replace H : ((dancestudioref44_Same.f k t317 y337).bind fun t340 => (if t340 = true then (if t318 = 0 then (if t321 = 490000 then (if t322 = 0 then (if t324 = 1 then (if t336 = 6 then ((collide_Check.f k t265 (y268.take 1) ([] : List (S62))).bind fun t346 => (if t346 = 2 then ((collide_Check.f k t265 y268 (([(⟨1, 0, 1, 0, (⟨0, 0⟩ : S60)⟩ : S62)] : List (S62)))).bind fun t350 => (some (t350 == 31))) else (none))) else (none)) else (none)) else (none)) else (none)) else (none)) else (none))) = some r := by first | (rw [hy337]; with_reducible exact H) | (have H2_ := (Option.bind_some _ _).symm.trans H; rw [hy337]; with_reducible exact H2_) | (have H2_ := (Option.bind_some _ _).symm.trans H; with_reducible exact H2_) | with_reducible exact H | (rw [hy337]; exact H) | exact H
      have Ny337 := am hy337
      clear hy337
      replace H := Option.bind_eq_some_iff.mp H
      obtain ⟨t340, A180, H⟩ := H
      replace H : (if t340 = true then (if t318 = 0 then (if t321 = 490000 then (if t322 = 0 then (if t324 = 1 then (if t336 = 6 then ((collide_Check.f k t265 (y268.take 1) ([] : List (S62))).bind fun t346 => (if t346 = 2 then ((collide_Check.f k t265 y268 (([(⟨1, 0, 1, 0, (⟨0, 0⟩ : S60)⟩ : S62)] : List (S62)))).bind fun t350 => (some (t350 == 31))) else (none))) else (none)) else (none)) else (none)) else (none)) else (none)) else (none)) = some r := H
      have A18 := am A180
      clear A180
      by_cases c19 : t340 = true
      ·
       subst c19
       have H1 : (if t318 = 0 then (if t321 = 490000 then (if t322 = 0 then (if t324 = 1 then (if t336 = 6 then ((collide_Check.f k t265 (y268.take 1) ([] : List (S62))).bind fun t346 => (if t346 = 2 then ((collide_Check.f k t265 y268 (([(⟨1, 0, 1, 0, (⟨0, 0⟩ : S60)⟩ : S62)] : List (S62)))).bind fun t350 => (some (t350 == 31))) else (none))) else (none)) else (none)) else (none)) else (none)) else (none)) = some r := by rw [if_pos rfl] at H; exact H
       clear H
       have H := H1
       clear H1
       by_cases c20 : t318 = 0; rotate_left
       · rw [if_neg c20] at H; exact absurd H (by simp)
       rw [if_pos c20] at H
       have c20b0 : (t318 == 0) = true := beq_iff_eq.mpr c20
       have c20b1 : (t318 != 0) = false := bne_eq_false_iff_eq.mpr c20
       clear c20
       by_cases c21 : t321 = 490000; rotate_left
       · rw [if_neg c21] at H; exact absurd H (by simp)
       rw [if_pos c21] at H
       have c21b0 : (t321 == 490000) = true := beq_iff_eq.mpr c21
       have c21b1 : (t321 != 490000) = false := bne_eq_false_iff_eq.mpr c21
       clear c21
       by_cases c22 : t322 = 0; rotate_left
       · rw [if_neg c22] at H; exact absurd H (by simp)
       rw [if_pos c22] at H
       have c22b0 : (t322 == 0) = true := beq_iff_eq.mpr c22
       have c22b1 : (t322 != 0) = false := bne_eq_false_iff_eq.mpr c22
       clear c22
       by_cases c23 : t324 = 1; rotate_left
       · rw [if_neg c23] at H; exact absurd H (by simp)
       rw [if_pos c23] at H
       have c23b0 : (t324 == 1) = true := beq_iff_eq.mpr c23
       have c23b1 : (t324 != 1) = false := bne_eq_false_iff_eq.mpr c23
       clear c23
       by_cases c24 : t336 = 6; rotate_left
       · rw [if_neg c24] at H; exact absurd H (by simp)
       rw [if_pos c24] at H
       have c24b0 : (t336 == 6) = true := beq_iff_eq.mpr c24
       have c24b1 : (t336 != 6) = false := bne_eq_false_iff_eq.mpr c24
       clear c24
       have c25b0 := eq_true (az : 1 ≤ (y268.length : Int))
       obtain ⟨y341, hy341⟩ : ∃ y_ : List Int, y_ = (y268.take 1) := ⟨_, rfl⟩
       replace H : ((collide_Check.f k t265 y341 ([] : List (S62))).bind fun t346 => (if t346 = 2 then ((collide_Check.f k t265 y268 (([(⟨1, 0, 1, 0, (⟨0, 0⟩ : S60)⟩ : S62)] : List (S62)))).bind fun t350 => (some (t350 == 31))) else (none))) = some r := by first | (rw [hy341]; with_reducible exact H) | (have H2_ := (Option.bind_some _ _).symm.trans H; rw [hy341]; with_reducible exact H2_) | (have H2_ := (Option.bind_some _ _).symm.trans H; with_reducible exact H2_) | with_reducible exact H | (rw [hy341]; exact H) | exact H
       have Ny341 := am hy341
       clear hy341
       replace H := Option.bind_eq_some_iff.mp H
       obtain ⟨t346, A260, H⟩ := H
       replace H : (if t346 = 2 then ((collide_Check.f k t265 y268 (([(⟨1, 0, 1, 0, (⟨0, 0⟩ : S60)⟩ : S62)] : List (S62)))).bind fun t350 => (some (t350 == 31))) else (none)) = some r := H
       have A26 := am A260
       clear A260
       by_cases c27 : t346 = 2; rotate_left
       · rw [if_neg c27] at H; exact absurd H (by simp)
       rw [if_pos c27] at H
       have c27b0 : (t346 == 2) = true := beq_iff_eq.mpr c27
       have c27b1 : (t346 != 2) = false := bne_eq_false_iff_eq.mpr c27
       clear c27
       obtain ⟨y347, hy347⟩ : ∃ y_ : List (S62), y_ = (([(⟨1, 0, 1, 0, (⟨0, 0⟩ : S60)⟩ : S62)] : List (S62))) := ⟨_, rfl⟩
       replace H : ((collide_Check.f k t265 y268 y347).bind fun t350 => (some (t350 == 31))) = some r := by first | (rw [hy347]; with_reducible exact H) | (have H2_ := (Option.bind_some _ _).symm.trans H; rw [hy347]; with_reducible exact H2_) | (have H2_ := (Option.bind_some _ _).symm.trans H; with_reducible exact H2_) | with_reducible exact H | (rw [hy347]; exact H) | exact H
       have Ny347 := am hy347
       clear hy347
       replace H := Option.bind_eq_some_iff.mp H
       obtain ⟨t350, A280, H⟩ := H
       replace H : (some (t350 == 31)) = some r := H
       have A28 := am A280
       clear A280
       obtain rfl := Option.some.inj H
       go_enter Try.func12, Try.ntmps12
       try go_wp2_with (first | ((with_reducible refine gate_callee (f := 26) rfl ?_); refine goesL_ (some 14) rfl rfl Try.func26 qz rfl #[] rfl mz ?_; (with_reducible refine (dancestudiolaw44_two.calls k  t265 _ A1.out).mono ?_); rintro e w29 ⟨v266, rfl, ho0, hb⟩; refine ⟨_, rfl, ?_⟩; have HO267 := am (Kd.N_lower (Kd.N_mono (ok' := fun k_ => True) ho0 (fun k_ hk_ => trivial)) (below_size bz)); replace HB := am (below_step bz hb); (try clear hb); (try clear hb2); (try clear hk); (try clear hi); (try clear ho0)) | ((with_reducible refine gate_dst (N := 15) rfl ?_); refine Kd.R_lit (Kd.int .i64) _ 3 ?hg (N := 15) ?hd (xs := ([300, 300] : List Int)) (inner := [.int .i64 300, .int .i64 300]) (ok := fun _ => True) (okp := fun _ => True) ?hr ?hp (fun _ hk => hk) trivial (Below.refl _ _) (Nat.le_refl _) (by simp) ?_; (case hd => rfl); (case hg => rfl); (case hr => first | (go_simp; done) | (go_simp; rfl)); (case hp => exact (Reps.one (show Kd.M (Kd.int .i64) _ _ _ 300 [.int .i64 300] from rfl) (Reps.one (show Kd.M (Kd.int .i64) _ _ _ 300 [.int .i64 300] from rfl) (Reps.none _ _)))); intro v269 w30 ho31 hb hg_ hnew_; clear hg_ hnew_; (first | rw [← Ny268.out] at ho31 | (simp only [Int.reduceToNat] at ho31; rw [← Ny268.out] at ho31)); replace HO267 := am (Kd.N_elder' (by (with_reducible repeat (first | apply Kd.N_alloc | apply Kd.N_drewN | apply Kd.N_drew)); exact HO267.out) (Kd.R_base ho31) hb); have HO270 := am (Kd.R_lower ho31 (below_size bz)); replace HB := am (below_step bz hb); clear hb ho31) | ((with_reducible refine gate_dst (N := 3) rfl ?_); refine box_event yz (N := 3) yz (cs := #[.int .i64 0, .int .i64 0, .int .i64 0]) (t := 30) gz ?_; intro gb271 hg w32 hbox hb; replace HO267 := am (Kd.N_below (Kd.N_elderB (by (with_reducible repeat (first | apply Kd.N_alloc | apply Kd.N_drewN | apply Kd.N_drew)); exact HO267.out) gb271 (Nat.le_of_eq hg.symm)) hb); replace HO270 := am (Kd.R_below (rz HO270) hb); have BK271 := am (hbox); have GW271 := gwz (g := gb271) HB hg; have GE271 := GW271; replace HB := am (below_step bz hb); clear hb hbox hg; obtain ⟨hcz33_0, hcz33_1, hcz33_2, hfz33_0, hfz33_1, hfz33_2⟩ := kc3 BK271.out) | ((with_reducible refine gate_dst (N := 19) rfl ?_); refine Kd.R_lit k62 _ 62 ?hg (N := 19) ?hd (xs := ([(⟨1, 0, 0, 0, (⟨2, 3⟩ : S60)⟩ : S62)] : List (S62))) (inner := [.int .i64 1, .int .i64 0, .int .i64 0, .int .i64 0, .int .i64 2, .int .i64 3]) (ok := fun _ => True) (okp := fun _ => True) ?hr ?hp (fun _ hk => hk) trivial (Below.refl _ _) (Nat.le_refl _) (by simp) ?_; (case hd => rfl); (case hg => rfl); (case hr => first | (go_simp; done) | (go_simp; rfl)); (case hp => exact (Reps.c6 (show Kd.M k62 _ _ _ (⟨1, 0, 0, 0, (⟨2, 3⟩ : S60)⟩ : S62) [.int .i64 1, .int .i64 0, .int .i64 0, .int .i64 0, .int .i64 2, .int .i64 3] from (k62_mkM _ _ _ (⟨1, 0, 0, 0, (⟨2, 3⟩ : S60)⟩ : S62) )) (Reps.none _ _))); intro v273 w34 ho35 hb hg_ hnew_; clear hg_ hnew_; (first | rw [← Ny272.out] at ho35 | (simp only [Int.reduceToNat] at ho35; rw [← Ny272.out] at ho35)); replace HO267 := am (Kd.N_elder' (by (with_reducible repeat (first | apply Kd.N_alloc | apply Kd.N_drewN | apply Kd.N_drew)); exact (Kd.N_mono (Kd.N_far (p := ⟨gb271, 2, none⟩) (Kd.N_far (p := ⟨gb271, 1, none⟩) (Kd.N_far (p := ⟨gb271, 0, none⟩) (Kd.N_mono HO267.out (fun k_ hk => (⟨hk, hk.2⟩ : _ ∧ k_ ≠ gb271))) (fun _ hk => hk.2) (.int .i64 1)) (fun _ hk => hk.2) (.int .i64 0)) (fun _ hk => hk.2) (.int .i64 1)) (fun _ h_ => h_.1))) (Kd.R_base ho35) hb); replace HO270 := am (Kd.R_below (by (with_reducible repeat first | apply rA | apply rN | apply rD); exact (Kd.R_mono (Kd.R_far (p := ⟨gb271, 2, none⟩) (Kd.R_far (p := ⟨gb271, 1, none⟩) (Kd.R_far (p := ⟨gb271, 0, none⟩) (Kd.R_types HO270.out BK271.out (by decide)) (fun _ hk => hk.2) (.int .i64 1)) (fun _ hk => hk.2) (.int .i64 0)) (fun _ hk => hk.2) (.int .i64 1)) (fun _ h_ => h_.1))) hb); have HO274 := am (Kd.R_lower ho35 (below_size bz)); replace BK271 := am (blk_below (o := .cells #[.int .i64 1, .int .i64 0, .int .i64 1] 30 (0, 0)) (by (with_reducible repeat first | apply kN | apply kD | apply kA); refine blk_put (cs := #[.int .i64 1, .int .i64 0, .int .i64 0]) ?_ 2 _ rfl; (with_reducible repeat first | apply kN | apply kD | apply kA); refine blk_put (cs := #[.int .i64 1, .int .i64 0, .int .i64 0]) ?_ 1 _ rfl; (with_reducible repeat first | apply kN | apply kD | apply kA); refine blk_put (cs := #[.int .i64 0, .int .i64 0, .int .i64 0]) ?_ 0 _ rfl; (with_reducible repeat first | apply kN | apply kD | apply kA); exact BK271.out) hb); replace HB := am (below_step bz hb); clear hb ho35) | ((with_reducible refine gate_dst (N := 22) rfl ?_); refine Kd.R_lit k62 _ 62 ?hg (N := 22) ?hd (xs := ([(⟨0, 0, 1, 0, (⟨0, 1⟩ : S60)⟩ : S62)] : List (S62))) (inner := [.int .i64 0, .int .i64 0, .int .i64 1, .int .i64 0, .int .i64 0, .int .i64 1]) (ok := fun _ => True) (okp := fun _ => True) ?hr ?hp (fun _ hk => hk) trivial (Below.refl _ _) (Nat.le_refl _) (by simp) ?_; (case hd => rfl); (case hg => rfl); (case hr => first | (go_simp; done) | (go_simp; rfl)); (case hp => exact (Reps.c6 (show Kd.M k62 _ _ _ (⟨0, 0, 1, 0, (⟨0, 1⟩ : S60)⟩ : S62) [.int .i64 0, .int .i64 0, .int .i64 1, .int .i64 0, .int .i64 0, .int .i64 1] from (k62_mkM _ _ _ (⟨0, 0, 1, 0, (⟨0, 1⟩ : S60)⟩ : S62) )) (Reps.none _ _))); intro v276 w36 ho37 hb hg_ hnew_; clear hg_ hnew_; (first | rw [← Ny275.out] at ho37 | (simp only [Int.reduceToNat] at ho37; rw [← Ny275.out] at ho37)); replace HO267 := am (Kd.N_elder' (by (with_reducible repeat (first | apply Kd.N_alloc | apply Kd.N_drewN | apply Kd.N_drew)); exact HO267.out) (Kd.R_base ho37) hb); replace HO270 := am (Kd.R_below (rz HO270) hb); have HO277 := am (Kd.R_lower (Kd.R_new' ho37 (Kd.R_lt (rz HO274))) (below_size bz)); replace HO274 := am (Kd.R_elder' (rz HO274) (Kd.R_base ho37) hb); replace BK271 := am (blk_below (o := .cells #[.int .i64 1, .int .i64 0, .int .i64 1] 30 (0, 0)) (kz BK271) hb); replace HB := am (below_step bz hb); clear hb ho37; obtain ⟨Ao38, co38, eo38⟩ := Kd.N_slice HO267.out; subst eo38; obtain ⟨Ao39, co39, eo39⟩ := Kd.R_slice HO270.out; subst eo39) | ((with_reducible refine gate_callee (f := 14) rfl ?_); refine goesL_ (some 25) rfl rfl Try.func14 qz rfl #[.slice Ao38 t265.length co38, .slice Ao39 y268.length co39, .slice none 0 0] rfl mz ?_; (refine (collide_Check.calls k _ _ t265 _ _ y268 _ _ ([] : List (S62)) t278 _ ?side1 ?side2 ?side3 ?side4 ?side5 ?side6 A2.out).mono ?_); (case side1 => repeat (first | exact (Kd.N_reads' HO267.out).2.2 | (with_reducible first | apply cA | apply cN | apply cD))); (case side2 => exact (Kd.N_reads' HO267.out).2.1); (case side3 => repeat (first | exact (Kd.R_reads' HO270.out).2.2 | (with_reducible first | apply cA | apply cN | apply cD))); (case side4 => exact (Kd.R_reads' HO270.out).2.1); (case side5 => exact Kd.C_nil _ _); (case side6 => exact Nat.le_refl _); rintro e w40 ⟨rfl, hb⟩; refine ⟨_, rfl, ?_⟩; replace HO267 := am (Kd.N_below (by (with_reducible repeat (first | apply Kd.N_alloc | apply Kd.N_drewN | apply Kd.N_drew)); exact HO267.out) hb); replace HO270 := am (Kd.R_below (rz HO270) hb); replace HO274 := am (Kd.R_below (rz HO274) hb); replace HO277 := am (Kd.R_below (rz HO277) hb); replace BK271 := am (blk_below (o := .cells #[.int .i64 1, .int .i64 0, .int .i64 1] 30 (0, 0)) (kz BK271) hb); replace HB := am (below_step bz hb); (try clear hb); (try clear hb2); (try clear hk); (try clear hi); obtain ⟨hcz41_0, hcz41_1, hcz41_2, hfz41_0, hfz41_1, hfz41_2⟩ := kc3 BK271.out) | (go_at_call 27; refine calls_of_args (args' := #[.int .i64 300, .slice none 0 0, .agg #[.int .i64 1, .int .i64 0, .int .i64 1]]) (by first | with_reducible rfl | rfl) ?_; (refine (dancestudiolaw44_first.calls k 300 _ _ ([] : List (S62)) 1 0 1 true _ ?side1 ?side2 A4.out).mono ?_); (case side1 => exact Kd.C_nil _ _); (case side2 => exact Nat.le_refl _); rintro e w42 ⟨rfl, hb⟩; replace HO267 := am (Kd.N_below (by (with_reducible repeat (first | apply Kd.N_alloc | apply Kd.N_drewN | apply Kd.N_drew)); exact HO267.out) hb); replace HO270 := am (Kd.R_below (rz HO270) hb); replace HO274 := am (Kd.R_below (rz HO274) hb); replace HO277 := am (Kd.R_below (rz HO277) hb); replace BK271 := am (blk_below (o := .cells #[.int .i64 1, .int .i64 0, .int .i64 1] 30 (0, 0)) (kz BK271) hb); replace HB := am (below_step bz hb); (try clear hb); (try clear hb2); (try clear hk); (try clear hi); obtain ⟨Ao43, co43, eo43⟩ := Kd.R_slice HO274.out; subst eo43) | (go_at_call 27; (with_reducible refine (dancestudiolaw44_first.calls k 300 _ _ y272 (-1) 0 0 true _ ?side1 ?side2 A6.out).mono ?_); (case side1 => repeat (first | exact (Kd.R_reads' HO274.out).2.2 | (with_reducible first | apply cA | apply cN | apply cD))); (case side2 => exact (Kd.R_reads' HO274.out).2.1); rintro e w44 ⟨rfl, hb⟩; replace HO267 := am (Kd.N_below (by (with_reducible repeat (first | apply Kd.N_alloc | apply Kd.N_drewN | apply Kd.N_drew)); exact HO267.out) hb); replace HO270 := am (Kd.R_below (rz HO270) hb); replace HO274 := am (Kd.R_below (rz HO274) hb); replace HO277 := am (Kd.R_below (rz HO277) hb); replace BK271 := am (blk_below (o := .cells #[.int .i64 1, .int .i64 0, .int .i64 1] 30 (0, 0)) (kz BK271) hb); replace HB := am (below_step bz hb); (try clear hb); (try clear hb2); (try clear hk); (try clear hi); obtain ⟨hcz45_0, hcz45_1, hcz45_2, hfz45_0, hfz45_1, hfz45_2⟩ := kc3 BK271.out; obtain ⟨Ao46, co46, eo46⟩ := Kd.R_slice HO277.out; subst eo46) | (go_at_call 27; (with_reducible refine (dancestudiolaw44_first.calls k 300 _ _ y275 1 0 1 true _ ?side1 ?side2 A8.out).mono ?_); (case side1 => repeat (first | exact (Kd.R_reads' HO277.out).2.2 | (with_reducible first | apply cA | apply cN | apply cD))); (case side2 => exact (Kd.R_reads' HO277.out).2.1); rintro e w47 ⟨rfl, hb⟩; replace HO267 := am (Kd.N_below (by (with_reducible repeat (first | apply Kd.N_alloc | apply Kd.N_drewN | apply Kd.N_drew)); exact HO267.out) hb); replace HO270 := am (Kd.R_below (rz HO270) hb); replace HO274 := am (Kd.R_below (rz HO274) hb); replace HO277 := am (Kd.R_below (rz HO277) hb); replace BK271 := am (blk_below (o := .cells #[.int .i64 1, .int .i64 0, .int .i64 1] 30 (0, 0)) (kz BK271) hb); replace HB := am (below_step bz hb); (try clear hb); (try clear hb2); (try clear hk); (try clear hi)) | (go_at_call 27; refine calls_of_args (args' := #[.int .i64 200, .slice none 0 0, .agg #[.int .i64 (-1), .int .i64 0, .int .i64 0]]) (by first | with_reducible rfl | rfl) ?_; (refine (dancestudiolaw44_first.calls k 200 _ _ ([] : List (S62)) (-1) 0 0 true _ ?side1 ?side2 A10.out).mono ?_); (case side1 => exact Kd.C_nil _ _); (case side2 => exact Nat.le_refl _); rintro e w48 ⟨rfl, hb⟩; replace HO267 := am (Kd.N_below (by (with_reducible repeat (first | apply Kd.N_alloc | apply Kd.N_drewN | apply Kd.N_drew)); exact HO267.out) hb); replace HO270 := am (Kd.R_below (rz HO270) hb); replace HO274 := am (Kd.R_below (rz HO274) hb); replace HO277 := am (Kd.R_below (rz HO277) hb); replace BK271 := am (blk_below (o := .cells #[.int .i64 1, .int .i64 0, .int .i64 1] 30 (0, 0)) (kz BK271) hb); replace HB := am (below_step bz hb); (try clear hb); (try clear hb2); (try clear hk); (try clear hi)) | ((with_reducible refine gate_callee (f := 16) rfl ?_); refine goesL_ (some 52) rfl rfl Try.func16 qz rfl #[.slice Ao38 t265.length co38, .slice Ao39 y268.length co39, .slice none 0 0] rfl mz ?_; (refine (collide_All.calls k _ _ t265 _ _ y268 _ _ ([] : List (S62)) t317 t318 _ ?side1 ?side2 ?side3 ?side4 ?side5 ?side6 A12.out).mono ?_); (case side1 => repeat (first | exact (Kd.N_reads' HO267.out).2.2 | (with_reducible first | apply cA | apply cN | apply cD))); (case side2 => exact (Kd.N_reads' HO267.out).2.1); (case side3 => repeat (first | exact (Kd.R_reads' HO270.out).2.2 | (with_reducible first | apply cA | apply cN | apply cD))); (case side4 => exact (Kd.R_reads' HO270.out).2.1); (case side5 => exact Kd.C_nil _ _); (case side6 => exact Nat.le_refl _); rintro e w49 ⟨v319, rfl, ho0, hb⟩; refine ⟨_, rfl, ?_⟩; replace HO267 := am (Kd.N_elder' (by (with_reducible repeat (first | apply Kd.N_alloc | apply Kd.N_drewN | apply Kd.N_drew)); exact HO267.out) (Kd.R_base ho0) hb); replace HO270 := am (Kd.R_below (rz HO270) hb); replace HO274 := am (Kd.R_below (rz HO274) hb); replace HO277 := am (Kd.R_below (rz HO277) hb); have HO320 := am (Kd.R_lower (Kd.R_newB ho0 (g := gb271) (o := .cells #[.int .i64 1, .int .i64 0, .int .i64 1] 30 (0, 0)) (kz BK271)) (below_size bz)); replace BK271 := am (blk_below (o := .cells #[.int .i64 1, .int .i64 0, .int .i64 1] 30 (0, 0)) (kz BK271) hb); replace HB := am (below_step bz hb); (try clear hb); (try clear hb2); (try clear hk); (try clear hi); (try clear ho0)) | ((with_reducible refine gate_callee (f := 17) rfl ?_); refine goesL_ (some 58) rfl rfl Try.func17 qz rfl #[.slice Ao38 t265.length co38, .slice Ao39 y268.length co39, .slice none 0 0, .int .i64 1] rfl mz ?_; (refine (collide_Room.calls k _ _ t265 _ _ y268 _ _ ([] : List (S62)) 1 t321 t322 _ ?side1 ?side2 ?side3 ?side4 ?side5 ?side6 A13.out).mono ?_); (case side1 => repeat (first | exact (Kd.N_reads' HO267.out).2.2 | (with_reducible first | apply cA | apply cN | apply cD))); (case side2 => exact (Kd.N_reads' HO267.out).2.1); (case side3 => repeat (first | exact (Kd.R_reads' HO270.out).2.2 | (with_reducible first | apply cA | apply cN | apply cD))); (case side4 => exact (Kd.R_reads' HO270.out).2.1); (case side5 => exact Kd.C_nil _ _); (case side6 => exact Nat.le_refl _); rintro e w50 ⟨rfl, hb⟩; refine ⟨_, rfl, ?_⟩; replace HO267 := am (Kd.N_below (by (with_reducible repeat (first | apply Kd.N_alloc | apply Kd.N_drewN | apply Kd.N_drew)); exact HO267.out) hb); replace HO270 := am (Kd.R_below (rz HO270) hb); replace HO274 := am (Kd.R_below (rz HO274) hb); replace HO277 := am (Kd.R_below (rz HO277) hb); replace HO320 := am (Kd.R_below (rz HO320) hb); replace BK271 := am (blk_below (o := .cells #[.int .i64 1, .int .i64 0, .int .i64 1] 30 (0, 0)) (kz BK271) hb); replace HB := am (below_step bz hb); (try clear hb); (try clear hb2); (try clear hk); (try clear hi)) | ((with_reducible refine gate_callee (f := 17) rfl ?_); refine goesL_ (some 64) rfl rfl Try.func17 qz rfl #[.slice Ao38 t265.length co38, .slice Ao39 y268.length co39, .slice none 0 0, .int .i64 3] rfl mz ?_; (refine (collide_Room.calls k _ _ t265 _ _ y268 _ _ ([] : List (S62)) 3 t323 t324 _ ?side1 ?side2 ?side3 ?side4 ?side5 ?side6 A14.out).mono ?_); (case side1 => repeat (first | exact (Kd.N_reads' HO267.out).2.2 | (with_reducible first | apply cA | apply cN | apply cD))); (case side2 => exact (Kd.N_reads' HO267.out).2.1); (case side3 => repeat (first | exact (Kd.R_reads' HO270.out).2.2 | (with_reducible first | apply cA | apply cN | apply cD))); (case side4 => exact (Kd.R_reads' HO270.out).2.1); (case side5 => exact Kd.C_nil _ _); (case side6 => exact Nat.le_refl _); rintro e w51 ⟨rfl, hb⟩; refine ⟨_, rfl, ?_⟩; replace HO267 := am (Kd.N_below (by (with_reducible repeat (first | apply Kd.N_alloc | apply Kd.N_drewN | apply Kd.N_drew)); exact HO267.out) hb); replace HO270 := am (Kd.R_below (rz HO270) hb); replace HO274 := am (Kd.R_below (rz HO274) hb); replace HO277 := am (Kd.R_below (rz HO277) hb); replace HO320 := am (Kd.R_below (rz HO320) hb); replace BK271 := am (blk_below (o := .cells #[.int .i64 1, .int .i64 0, .int .i64 1] 30 (0, 0)) (kz BK271) hb); replace HB := am (below_step bz hb); (try clear hb); (try clear hb2); (try clear hk); (try clear hi)))
       have n0_ := am (Kd.N_drew HO267.out)
       have n1_ := am (Kd.R_drew HO270.out)
       have n2_ := am (Kd.R_drew HO274.out)
       have n3_ := am (Kd.R_drew HO277.out)
       have n4_ := am (Kd.R_drew HO320.out)
       have n5_ := am (blk_drew BK271.out)
       have n6_ := am (below_drew1 HB.out)
       clear HO267
       clear HO270
       clear HO274
       clear HO277
       clear HO320
       clear BK271
       clear HB
       have HO267 := n0_
       have HO270 := n1_
       have HO274 := n2_
       have HO277 := n3_
       have HO320 := n4_
       have BK271 := n5_
       have HB := n6_
       clear n0_ n1_ n2_ n3_ n4_ n5_ n6_
       have q53 : (1 : Int) ≤ ((t265.length : Int) : Int) := az
       obtain ⟨i053, hi053, _, hsz53, _⟩ := info_parts info43
       have hroom53 : t265.length ≤ co38 := (Kd.N_reads' HO267.out).2.1
       have hC53 : Kd.F k43 _ _ Ao38 t265.length t265 := (Kd.V_at (base := w.heap.size) (Kd.N_V HO267.out)).2.2
       have hcut53 := cut_to (P := Try.prog) 22 43 .i64 Try.underlying22 hi053 Ao38 t265.length co38 1 (by omega) q53 hroom53
       have hr53 := Kd.F_take (m := 1) hC53 (by omega)
       have hy53 : y325.length = (1 : Int).toNat := (by rw [Ny325.out, List.length_take]; omega)
       rw [← Ny325.out] at hr53
       rw [← hy53] at hcut53
       have HO329 := am (show Kd.V k43 43 _ w.heap.size _ (.slice Ao38 y325.length co38) y325 from Kd.V_mk (by omega) hr53)
       have HC329 := am (show y325.length ≤ co38 from by omega)
       clear hr53 hC53 hroom53 hi053 hsz53
       have KY53 := am hy53
       clear hy53
       replace q53 := eq_true q53
       have q54 : (1 : Int) ≤ ((y268.length : Int) : Int) := az
       obtain ⟨i054, hi054, _, hsz54, _⟩ := info_parts info3
       have hroom54 : y268.length ≤ co39 := (Kd.R_reads' HO270.out).2.1
       have hC54 : Kd.F (Kd.int .i64) _ _ Ao39 y268.length y268 := (Kd.V_at (base := w.heap.size) (Kd.R_V (Kd.R_types (Kd.R_apart' (Kd.R_apart' (Kd.R_apart' (Kd.R_apart' (HO270.out) (Kd.N_typed HO267.out) (by decide)) (Kd.R_typed HO274.out) (by decide)) (Kd.R_typed HO277.out) (by decide)) (Kd.R_typed HO320.out) (by decide)) BK271.out (by decide)))).2.2
       have hcut54 := cut_to (P := Try.prog) 23 3 .i64 Try.underlying23 hi054 Ao39 y268.length co39 1 (by omega) q54 hroom54
       have hr54 := Kd.F_take (m := 1) hC54 (by omega)
       have hy54 : y330.length = (1 : Int).toNat := (by rw [Ny330.out, List.length_take]; omega)
       rw [← Ny330.out] at hr54
       rw [← hy54] at hcut54
       have HO334 := am (show Kd.V (Kd.int .i64) 3 _ w.heap.size _ (.slice Ao39 y330.length co39) y330 from Kd.V_mk (by omega) hr54)
       have HC334 := am (show y330.length ≤ co39 from by omega)
       clear hr54 hC54 hroom54 hi054 hsz54
       have KY54 := am hy54
       clear hy54
       replace q54 := eq_true q54
       refine start_ (n := 10) (S := fun w' => True) (ds := []) (bm 10 0) qz rfl rfl trivial (fun hHeld => ?_); refine with_tabW dancestudiolaw44_awake.tab10 dancestudiolaw44_awake.bits10 (fun HT_ HW_ => ?_)
       generalize w51.drew = w52 at HO267 HO270 HO274 HO277 HO320 BK271 HB HO329 HO334 hHeld ⊢
       refine pa (i := 0) (N := some 68) (bm 10 1) HT_ ?_
       refine pa (i := 1) (N := some 69) (bm 10 3) HT_ ?_
       refine pa (i := 2) (N := some 70) (bm 10 7) HT_ ?_
       refine pa (i := 3) (N := some 71) (bm 10 15) HT_ ?_
       refine one_ (i := 4) (N := some 72) (bm 10 31) rfl rfl (one_of HT_.out qz) (by decide) (fun K hK => ?_)
       refine goes_ Try.func17 qz rfl #[.slice Ao38 y325.length co38, .slice Ao39 y330.length co39, .slice none 0 0, .int .i64 0] (by rfl) rfl rfl mz ?_
       refine (collide_Room.calls k _ _ y325 _ _ y330 _ _ ([] : List (S62)) 0 t335 t336 _ ?side1 ?side2 ?side3 ?side4 ?side5 ?side6 A17.out).mono ?_
       (case side1 => repeat (first | exact (Kd.V_reads' HO329.out).2.2 | (with_reducible first | apply cA | apply cN | apply cD)))
       (case side2 => exact (Kd.V_reads' HO329.out).2.1)
       (case side3 => repeat (first | exact (Kd.V_reads' HO334.out).2.2 | (with_reducible first | apply cA | apply cN | apply cD)))
       (case side4 => exact (Kd.V_reads' HO334.out).2.1)
       (case side5 => exact Kd.C_nil _ _)
       (case side6 => exact Nat.le_refl _)
       rintro e w55 ⟨rfl, hb⟩
       refine ⟨_, rfl, ?_⟩
       have n0_ := am (Kd.N_below (by (with_reducible repeat (first | apply Kd.N_alloc | apply Kd.N_drewN | apply Kd.N_drew)); exact HO267.out) hb)
       have n1_ := am (Kd.R_below (rz HO270) hb)
       have n2_ := am (Kd.R_below (rz HO274) hb)
       have n3_ := am (Kd.R_below (rz HO277) hb)
       have n4_ := am (Kd.R_below (rz HO320) hb)
       have n5_ := am (Kd.V_below (by (with_reducible repeat (first | apply Kd.V_alloc | apply Kd.V_drewN | apply Kd.V_drew)); exact HO329.out) hb)
       have n6_ := am (Kd.V_below (by (with_reducible repeat (first | apply Kd.V_alloc | apply Kd.V_drewN | apply Kd.V_drew)); exact HO334.out) hb)
       have n7_ := am (blk_below (o := .cells #[.int .i64 1, .int .i64 0, .int .i64 1] 30 (0, 0)) (kz BK271) hb)
       have n8_ := am (below_step bz hb)
       clear HO267
       clear HO270
       clear HO274
       clear HO277
       clear HO320
       clear HO329
       clear HO334
       clear BK271
       clear HB
       have HO267 := n0_
       have HO270 := n1_
       have HO274 := n2_
       have HO277 := n3_
       have HO320 := n4_
       have HO329 := n5_
       have HO334 := n6_
       have BK271 := n7_
       have HB := n8_
       clear n0_ n1_ n2_ n3_ n4_ n5_ n6_ n7_ n8_
       (try clear hb)
       (try clear hb2)
       (try clear hk)
       (try clear hi)
       refine hK.out _ _ trivial (fun hHeld => ?_)
       clear hK K
       refine norm_ (a' := ?_) ?_ ?_
       rotate_left
       ·
        show Act.put _ (some 72) _ = _
        simp only [Act.put, aS, lZ, lS, i64_w, i32_w]
        rfl
       refine pa (i := 5) (N := some 67) (bm 10 63) HT_ ?_
       refine pa (i := 6) (N := some 73) (bm 10 127) HT_ ?_
       refine pa (i := 7) (N := some 74) (bm 10 255) HT_ ?_
       refine pa (i := 8) (N := some 12) (bm 10 511) HT_ ?_
       refine pa (i := 9) (N := some 13) (bm 10 1023) HT_ ?_
       refine done_ (done_of HT_.out qz) ?_
       obtain ⟨hcz56_0, hcz56_1, hcz56_2, hfz56_0, hfz56_1, hfz56_2⟩ := kc3 BK271.out
       try go_wp2_with (first | ((with_reducible refine gate_dst (N := 77) rfl ?_); refine Kd.R_lit k30 _ 30 ?hg (N := 77) ?hd (xs := ([(⟨1, 0, 1⟩ : S30)] : List (S30))) (inner := [.int .i64 1, .int .i64 0, .int .i64 1]) (ok := fun _ => True) (okp := fun _ => True) ?hr ?hp (fun _ hk => hk) trivial (Below.refl _ _) (Nat.le_refl _) (by simp) ?_; (case hd => rfl); (case hg => rfl); (case hr => first | (go_simp; done) | (go_simp; rfl)); (case hp => exact (Reps.c3 (show Kd.M k30 _ _ _ (⟨1, 0, 1⟩ : S30) [.int .i64 1, .int .i64 0, .int .i64 1] from (k30_mkM _ _ _ (⟨1, 0, 1⟩ : S30) )) (Reps.none _ _))); intro v338 w57 ho58 hb hg_ hnew_; clear hg_ hnew_; (first | rw [← Ny337.out] at ho58 | (simp only [Int.reduceToNat] at ho58; rw [← Ny337.out] at ho58)); replace HO267 := am (Kd.N_elder' (by (with_reducible repeat (first | apply Kd.N_alloc | apply Kd.N_drewN | apply Kd.N_drew)); exact HO267.out) (Kd.R_base ho58) hb); replace HO270 := am (Kd.R_below (rz HO270) hb); replace HO274 := am (Kd.R_below (rz HO274) hb); replace HO277 := am (Kd.R_below (rz HO277) hb); replace HO329 := am (Kd.V_elder' (by (with_reducible repeat (first | apply Kd.V_alloc | apply Kd.V_drewN | apply Kd.V_drew)); exact HO329.out) (Kd.R_base ho58) hb); replace HO334 := am (Kd.V_elder' (by (with_reducible repeat (first | apply Kd.V_alloc | apply Kd.V_drewN | apply Kd.V_drew)); exact HO334.out) (Kd.R_base ho58) hb); have HO339 := am (Kd.R_lower (Kd.R_newB (Kd.R_new' ho58 (Kd.R_lt (rz HO320))) (g := gb271) (o := .cells #[.int .i64 1, .int .i64 0, .int .i64 1] 30 (0, 0)) (kz BK271)) (below_size bz)); replace HO320 := am (Kd.R_elder' (rz HO320) (Kd.R_base ho58) hb); replace BK271 := am (blk_below (o := .cells #[.int .i64 1, .int .i64 0, .int .i64 1] 30 (0, 0)) (kz BK271) hb); replace HB := am (below_step bz hb); clear hb ho58; obtain ⟨Ao59, co59, eo59⟩ := Kd.R_slice HO320.out; subst eo59; obtain ⟨Ao60, co60, eo60⟩ := Kd.R_slice HO339.out; subst eo60) | ((with_reducible refine gate_callee (f := 20) rfl ?_); refine goesL_ (some 78) rfl rfl Try.func20 qz rfl #[.slice Ao59 t317.length co59, .slice Ao60 y337.length co60] rfl mz ?_; (with_reducible refine (dancestudioref44_Same.calls k _ _ t317 _ _ y337 true _ ?side1 ?side2 ?side3 ?side4 A18.out).mono ?_); (case side1 => repeat (first | exact (Kd.R_reads' HO320.out).2.2 | (with_reducible first | apply cA | apply cN | apply cD))); (case side2 => exact (Kd.R_reads' HO320.out).2.1); (case side3 => repeat (first | exact (Kd.R_reads' HO339.out).2.2 | (with_reducible first | apply cA | apply cN | apply cD))); (case side4 => exact (Kd.R_reads' HO339.out).2.1); rintro e w' ⟨rfl, ⟨nd, rfl⟩⟩; refine ⟨_, rfl, ?_⟩; clear hcut54; have q61 : (1 : Int) ≤ ((y268.length : Int) : Int) := az; obtain ⟨i061, hi061, _, hsz61, _⟩ := info_parts info3; have hroom61 : y268.length ≤ co39 := (Kd.R_reads' HO270.out).2.1; have hC61 : Kd.F (Kd.int .i64) _ _ Ao39 y268.length y268 := (Kd.V_at (base := w.heap.size) (Kd.R_V (Kd.R_types (Kd.R_apart' (Kd.R_apart' (Kd.R_apart' (Kd.R_apart' (Kd.R_apart' (HO270.out) (Kd.N_typed HO267.out) (by decide)) (Kd.R_typed HO274.out) (by decide)) (Kd.R_typed HO277.out) (by decide)) (Kd.R_typed HO320.out) (by decide)) (Kd.R_typed HO339.out) (by decide)) BK271.out (by decide)))).2.2; have hcut61 := cut_to (P := Try.prog) 23 3 .i64 Try.underlying23 hi061 Ao39 y268.length co39 1 (by omega) q61 hroom61; have hr61 := Kd.F_take (m := 1) hC61 (by omega); have hy61 : y341.length = (1 : Int).toNat := (by rw [Ny341.out, List.length_take]; omega); rw [← Ny341.out] at hr61; rw [← hy61] at hcut61; have HO345 := am (show Kd.V (Kd.int .i64) 3 _ w.heap.size _ (.slice Ao39 y341.length co39) y341 from Kd.V_mk (by omega) hr61); have HC345 := am (show y341.length ≤ co39 from by omega); clear hr61 hC61 hroom61 hi061 hsz61; have KY61 := am hy61; clear hy61; replace q61 := eq_true q61) | ((with_reducible refine gate_callee (f := 14) rfl ?_); refine goesL_ (some 103) rfl rfl Try.func14 qz rfl #[.slice Ao38 t265.length co38, .slice Ao39 y341.length co39, .slice none 0 0] rfl mz ?_; (refine (collide_Check.calls k _ _ t265 _ _ y341 _ _ ([] : List (S62)) t346 _ ?side1 ?side2 ?side3 ?side4 ?side5 ?side6 A26.out).mono ?_); (case side1 => repeat (first | exact (Kd.N_reads' HO267.out).2.2 | (with_reducible first | apply cA | apply cN | apply cD))); (case side2 => exact (Kd.N_reads' HO267.out).2.1); (case side3 => repeat (first | exact (Kd.V_reads' HO345.out).2.2 | (with_reducible first | apply cA | apply cN | apply cD))); (case side4 => exact (Kd.V_reads' HO345.out).2.1); (case side5 => exact Kd.C_nil _ _); (case side6 => exact Nat.le_refl _); rintro e w62 ⟨rfl, hb⟩; refine ⟨_, rfl, ?_⟩; replace HO267 := am (Kd.N_below (by (with_reducible repeat (first | apply Kd.N_alloc | apply Kd.N_drewN | apply Kd.N_drew)); exact HO267.out) hb); replace HO270 := am (Kd.R_below (rz HO270) hb); replace HO274 := am (Kd.R_below (rz HO274) hb); replace HO277 := am (Kd.R_below (rz HO277) hb); replace HO320 := am (Kd.R_below (rz HO320) hb); replace HO329 := am (Kd.V_below (by (with_reducible repeat (first | apply Kd.V_alloc | apply Kd.V_drewN | apply Kd.V_drew)); exact HO329.out) hb); replace HO334 := am (Kd.V_below (by (with_reducible repeat (first | apply Kd.V_alloc | apply Kd.V_drewN | apply Kd.V_drew)); exact HO334.out) hb); replace HO339 := am (Kd.R_below (rz HO339) hb); replace HO345 := am (Kd.V_below (by (with_reducible repeat (first | apply Kd.V_alloc | apply Kd.V_drewN | apply Kd.V_drew)); exact HO345.out) hb); replace BK271 := am (blk_below (o := .cells #[.int .i64 1, .int .i64 0, .int .i64 1] 30 (0, 0)) (kz BK271) hb); replace HB := am (below_step bz hb); (try clear hb); (try clear hb2); (try clear hk); (try clear hi)) | ((with_reducible refine gate_dst (N := 109) rfl ?_); refine dancestudiolaw44_awake.unguard (by first | rfl | (go_simp; done)) ?_; refine Kd.R_lit k62 _ 62 ?hg (N := 109) ?hd (xs := ([(⟨1, 0, 1, 0, (⟨0, 0⟩ : S60)⟩ : S62)] : List (S62))) (inner := [.int .i64 1, .int .i64 0, .int .i64 1, .int .i64 0, .int .i64 0, .int .i64 0]) (ok := fun _ => True) (okp := fun _ => True) ?hr ?hp (fun _ hk => hk) trivial (Below.refl _ _) (Nat.le_refl _) (by simp) ?_; (case hd => rfl); (case hg => rfl); (case hr => first | (go_simp; done) | (go_simp; rfl)); (case hp => exact (Reps.c6 (show Kd.M k62 _ _ _ (⟨1, 0, 1, 0, (⟨0, 0⟩ : S60)⟩ : S62) [.int .i64 1, .int .i64 0, .int .i64 1, .int .i64 0, .int .i64 0, .int .i64 0] from (k62_mkM _ _ _ (⟨1, 0, 1, 0, (⟨0, 0⟩ : S60)⟩ : S62) )) (Reps.none _ _))); intro v348 w63 ho64 hb hg_ hnew_; clear hg_ hnew_; (first | rw [← Ny347.out] at ho64 | (simp only [Int.reduceToNat] at ho64; rw [← Ny347.out] at ho64)); replace HO267 := am (Kd.N_elder' (by (with_reducible repeat (first | apply Kd.N_alloc | apply Kd.N_drewN | apply Kd.N_drew)); exact HO267.out) (Kd.R_base ho64) hb); replace HO270 := am (Kd.R_below (rz HO270) hb); replace HO320 := am (Kd.R_below (rz HO320) hb); replace HO329 := am (Kd.V_elder' (by (with_reducible repeat (first | apply Kd.V_alloc | apply Kd.V_drewN | apply Kd.V_drew)); exact HO329.out) (Kd.R_base ho64) hb); replace HO334 := am (Kd.V_elder' (by (with_reducible repeat (first | apply Kd.V_alloc | apply Kd.V_drewN | apply Kd.V_drew)); exact HO334.out) (Kd.R_base ho64) hb); replace HO339 := am (Kd.R_below (rz HO339) hb); replace HO345 := am (Kd.V_elder' (by (with_reducible repeat (first | apply Kd.V_alloc | apply Kd.V_drewN | apply Kd.V_drew)); exact HO345.out) (Kd.R_base ho64) hb); have HO349 := am (Kd.R_lower (Kd.R_new' (Kd.R_new' ho64 (Kd.R_lt (rz HO274))) (Kd.R_lt (rz HO277))) (below_size bz)); replace HO274 := am (Kd.R_elder' (rz HO274) (Kd.R_base ho64) hb); replace HO277 := am (Kd.R_elder' (rz HO277) (Kd.R_base ho64) hb); replace BK271 := am (blk_below (o := .cells #[.int .i64 1, .int .i64 0, .int .i64 1] 30 (0, 0)) (kz BK271) hb); replace HB := am (below_step bz hb); clear hb ho64; obtain ⟨Ao65, co65, eo65⟩ := Kd.R_slice HO349.out; subst eo65) | (go_at_call 14; (with_reducible refine (collide_Check.calls k _ _ t265 _ _ y268 _ _ y347 t350 _ ?side1 ?side2 ?side3 ?side4 ?side5 ?side6 A28.out).mono ?_); (case side1 => repeat (first | exact (Kd.N_reads' HO267.out).2.2 | (with_reducible first | apply cA | apply cN | apply cD))); (case side2 => exact (Kd.N_reads' HO267.out).2.1); (case side3 => repeat (first | exact (Kd.R_reads' HO270.out).2.2 | (with_reducible first | apply cA | apply cN | apply cD))); (case side4 => exact (Kd.R_reads' HO270.out).2.1); (case side5 => repeat (first | exact (Kd.R_reads' HO349.out).2.2 | (with_reducible first | apply cA | apply cN | apply cD))); (case side6 => exact (Kd.R_reads' HO349.out).2.1); rintro e w66 ⟨rfl, hb⟩; replace HO267 := am (Kd.N_below (by (with_reducible repeat (first | apply Kd.N_alloc | apply Kd.N_drewN | apply Kd.N_drew)); exact HO267.out) hb); replace HO270 := am (Kd.R_below (rz HO270) hb); replace HO274 := am (Kd.R_below (rz HO274) hb); replace HO277 := am (Kd.R_below (rz HO277) hb); replace HO320 := am (Kd.R_below (rz HO320) hb); replace HO329 := am (Kd.V_below (by (with_reducible repeat (first | apply Kd.V_alloc | apply Kd.V_drewN | apply Kd.V_drew)); exact HO329.out) hb); replace HO334 := am (Kd.V_below (by (with_reducible repeat (first | apply Kd.V_alloc | apply Kd.V_drewN | apply Kd.V_drew)); exact HO334.out) hb); replace HO339 := am (Kd.R_below (rz HO339) hb); replace HO345 := am (Kd.V_below (by (with_reducible repeat (first | apply Kd.V_alloc | apply Kd.V_drewN | apply Kd.V_drew)); exact HO345.out) hb); replace HO349 := am (Kd.R_below (rz HO349) hb); replace BK271 := am (blk_below (o := .cells #[.int .i64 1, .int .i64 0, .int .i64 1] 30 (0, 0)) (kz BK271) hb); replace HB := am (below_step bz hb); (try clear hb); (try clear hb2); (try clear hk); (try clear hi)))
       go_ret
       exact ⟨ez, bz⟩
      ·
       replace c19 := Bool.eq_false_iff.mpr c19
       subst c19
       have H1 : (none) = some r := by rw [if_neg (show ¬ (false = true) by decide)] at H; exact H
       clear H
       have H := H1
       clear H1
       exact absurd H (by simp)
     ·
      replace c11 := Bool.eq_false_iff.mpr c11
      subst c11
      have H1 : (none) = some r := by rw [if_neg (show ¬ (false = true) by decide)] at H; exact H
      clear H
      have H := H1
      clear H1
      exact absurd H (by simp)
    ·
     replace c9 := Bool.eq_false_iff.mpr c9
     subst c9
     have H1 : (none) = some r := by rw [if_neg (show ¬ (false = true) by decide)] at H; exact H
     clear H
     have H := H1
     clear H1
     exact absurd H (by simp)
   ·
    replace c7 := Bool.eq_false_iff.mpr c7
    subst c7
    have H1 : (none) = some r := by rw [if_neg (show ¬ (false = true) by decide)] at H; exact H
    clear H
    have H := H1
    clear H1
    exact absurd H (by simp)
  ·
   replace c5 := Bool.eq_false_iff.mpr c5
   subst c5
   have H1 : (none) = some r := by rw [if_neg (show ¬ (false = true) by decide)] at H; exact H
   clear H
   have H := H1
   clear H1
   exact absurd H (by simp)
 ·
  rw [if_neg c3] at H
  exact absurd H (by simp)

end Go.Proofs.Yteflngoiebgdaaa.X
