/- The chapter's examples hold; integers and sizes: WireInts, WireSizes. -/
import Derived.Test.YtmmnhokejadgaaaX15
import Derived.Test.YtmmnhokejadgaaaX14
import Derived.Test.YtmmnhokejadgaaaX1
import Derived.Test.YtmmnhokejadgaaaImplB
import Derived.Lib.Bytes
namespace Go.Proofs.Ytmmnhokejadgaaa.WImpl
open Go.RowKit Go.Proofs.YtmmnhokejadgaaaW.PrintWords Go.Proofs.Ytmmnhokejadgaaa.X Go.Proofs.Ytmmnhokejadgaaa.WPlain
set_option linter.unusedVariables false
theorem wf64 {n : Int} (h : (Lit.int .i64 n).wf = true) : I64 n := by
  simp only [Lit.wf, IntKind.min, IntKind.max, IntKind.signed, IntKind.bits, Bool.and_eq_true, decide_eq_true_eq, if_true] at h
  unfold I64
  omega
theorem wfu8 {n : Int} (h : (Lit.int .u8 n).wf = true) : 0 ≤ n ∧ n ≤ 255 := by
  simp only [Lit.wf, IntKind.min, IntKind.max, IntKind.signed, IntKind.bits, Bool.and_eq_true] at h
  simp at h
  omega
theorem takes_f (k : Nat) (a b c : Int) (l : List Int) (h : tki l = (a, b, c)) (hb : BY l) (hl : l.length ≤ 20) (hk : 60 ≤ k) : dancestudiolaw07_takes.f k a b c l = some true := by
  unfold dancestudiolaw07_takes.f
  rw [takeInt_f k l hb (by omega) (by omega), h]
  simp
theorem str_of (l : List Int) (bs : List UInt8) (h : l.map (fun n => UInt8.ofNat n.toNat) = bs) : (strOfNums l).toList = bs := by
  rw [Lib.strOfNums_toList]
  exact h
theorem enc150 : enc 150 = [172, 2] := by unfold enc; rw [show zz 150 = 300 from rfl, vi_big _ (by omega), show 300 / 128 = 2 from rfl, vi_small _ (by omega)]; rfl
theorem encm64 : enc (-64) = [127] := by unfold enc; rw [show zz (-64) = 127 from rfl, vi_small _ (by omega)]; rfl
theorem enc64 : enc 64 = [128, 1] := by unfold enc; rw [show zz 64 = 128 from rfl, vi_big _ (by omega), show 128 / 128 = 1 from rfl, vi_small _ (by omega)]; rfl
theorem enc2 : enc 2 = [4] := by unfold enc; rw [show zz 2 = 4 from rfl, vi_small _ (by omega)]; rfl
theorem enc1 : enc 1 = [2] := by unfold enc; rw [show zz 1 = 2 from rfl, vi_small _ (by omega)]; rfl
theorem encm1 : enc (-1) = [1] := by unfold enc; rw [show zz (-1) = 1 from rfl, vi_small _ (by omega)]; rfl
theorem BYd (l : List Int) (h : l.all (fun x => decide (0 ≤ x) && decide (x ≤ 255)) = true) : BY l := by
  intro x hx
  have := List.all_eq_true.1 h x hx
  simpa using this
theorem hi_f : (⟨#[104, 105]⟩ : ByteArray).size = 2 := rfl
theorem awake_f (k : Nat) (hk : 130 ≤ k) : dancestudiolaw07_awake.f k = some true := by
  unfold dancestudiolaw07_awake.f
  rw [putInt_f k [] 150 ⟨by omega, by omega⟩ (by simp) (by omega), List.nil_append, enc150, Option.bind_some, if_pos (str_of [172, 2] [172, 2] rfl), putInt_f k [] (-64) ⟨by omega, by omega⟩ (by simp) (by omega), List.nil_append, encm64, Option.bind_some, if_pos (str_of [127] [127] rfl), putInt_f k [] 64 ⟨by omega, by omega⟩ (by simp) (by omega), List.nil_append, enc64, Option.bind_some, if_pos (str_of [128, 1] [128, 1] rfl)]
  rw [takes_f k 150 2 0 _ rfl (BYd _ rfl) (by simp) (by omega), Option.bind_some, if_pos rfl, takes_f k 0 0 13 _ rfl (BYd _ rfl) (by simp) (by omega), Option.bind_some, if_pos rfl, takes_f k 0 0 13 _ rfl (BYd _ rfl) (by simp) (by omega), Option.bind_some, if_pos rfl, takes_f k 0 0 2 _ rfl (BYd _ rfl) (by simp) (by omega), Option.bind_some, if_pos rfl, takes_f k 0 0 12 _ rfl (BYd _ rfl) (by simp) (by omega), Option.bind_some, if_pos rfl]
  rw [takeText_f k [4, 104, 105] 2 (BYd _ rfl) (by simp) (by simp; omega), takeText_f k [4, 104, 105] 1 (BYd _ rfl) (by simp) (by simp; omega), takeText_f k [1] 9 (BYd _ rfl) (by simp) (by simp; omega), Option.bind_some, Option.bind_some, Option.bind_some]
  rw [show tkt [4, 104, 105] 2 = (strOfNums [104, 105], 3, 0) from rfl, if_pos (str_of [104, 105] [104, 105] rfl), if_pos (by rfl), if_pos (by rfl), if_pos (show (tkt [4, 104, 105] 1).2.2 = 3 from rfl), if_pos (show (tkt [1] 9).2.2 = 2 from rfl), putText_f k [] _ (by rw [hi_f]; simp) (by omega), Option.bind_some]
  rw [hi_f, show (([] : List Int) ++ enc ((2 : Nat) : Int) ++ bytesOf ⟨#[104, 105]⟩) = [4, 104, 105] by rw [show ((2 : Nat) : Int) = 2 from rfl, enc2]; rfl, if_pos (str_of _ [4, 104, 105] rfl)]
  rw [takeList_f k _ 2 (BYd _ rfl) (by simp) (by simp; omega), show tkl [4, 2, 1, 7] 2 = ([1, -1], 3, 0) from rfl, Option.bind_some, ints_f k _ _ (by simp) (by simp; omega), Option.bind_some, if_pos (by rfl), if_pos (by rfl), if_pos (by rfl)]
  rw [putList_f k [] [1, -1] (fun x hx => by simp at hx; rcases hx with rfl | rfl <;> exact ⟨by omega, by omega⟩) (by simp) (by simp) (by simp; omega), Option.bind_some]
  rw [show ([] ++ enc (([1, -1] : List Int).length : Nat) ++ encs [1, -1] : List Int) = [4, 2, 1] by
    rw [show ((([1, -1] : List Int).length : Nat) : Int) = 2 from rfl, enc2]
    simp [encs, enc1, encm1]]
  rw [str_of _ [4, 2, 1] rfl]
  rfl
theorem bytes_f (a b : List Int) (h : a = b) : dancestudioref07_Bytes.f a b = some true := by
  unfold dancestudioref07_Bytes.f
  rw [h]
  simp
end Go.Proofs.Ytmmnhokejadgaaa.WImpl
