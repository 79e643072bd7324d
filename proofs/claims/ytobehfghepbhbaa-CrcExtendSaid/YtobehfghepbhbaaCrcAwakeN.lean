/- The package crc, as printed: the chapter's examples, and the frame of the reference. -/
import Derived.Test.YtobehfghepbhbaaX20
import Derived.Test.YtobehfghepbhbaaX11
import Derived.Test.YtobehfghepbhbaaCrcOpen2
namespace Go.Proofs.Ytobehfghepbhbaa.CrcImpl
open Go.RowKit Go.Proofs.YtobehfghepbhbaaW.PrintWords Go.Proofs.Ytobehfghepbhbaa.X Go.Proofs.Ytobehfghepbhbaa.WPlain Go.Proofs.Ytobehfghepbhbaa.WImpl Go.Proofs.Ytobehfghepbhbaa.Crc
set_option linter.unusedVariables false

theorem rframe_f (k : Nat) (c : List Int) (hb : BY c) (hl : c.length ≤ 1000000) (hk : 10 * c.length + 200 ≤ k) : dancestudioref08_Frame.f k c = some (if (c.length : Int) > 65536 then ([], 3) else (frm c, 0)) := by
  have h64 : I64 (c.length : Int) := ⟨by omega, by omega⟩
  have he := enc_len (c.length : Int) h64
  have hE : BY (enc (c.length : Int)) := enc_bytes _
  unfold dancestudioref08_Frame.f
  split
  · rfl
  · have hp := refPutInt_f k [] (c.length : Int) h64 (by simp) (by omega)
    rw [List.nil_append] at hp
    have hlt := ext_lt (s := 0) (l := enc (c.length : Int) ++ c) (by omega) (fun y hy => (List.mem_append.1 hy).elim (hE y) (hb y))
    rw [hp, Option.bind_some, rsum_f k _ hE (by omega) (by omega), Option.bind_some, rextend_f k _ c (ext_lt (by omega) hE) hb (by omega) (by omega), Option.bind_some, ext_append, if_pos (by simp; omega), Option.bind_some, four_f _ hlt, Option.bind_some, List.nil_append, if_pos (by simp [fourb]; omega), Option.bind_some, if_pos (by simp [fourb]; omega)]
    rfl
/-! ### the examples -/
theorem s9 : ext 0 [49, 50, 51, 52, 53, 54, 55, 56, 57] = 3808858755 := by decide +kernel
theorem s0 : ext 0 [] = 0 := by decide +kernel
theorem sz : ext 0 (List.replicate 32 0) = 2324772522 := by decide +kernel
theorem so : ext 0 (List.replicate 32 255) = 1655221059 := by decide +kernel
theorem su : ext 0 ((List.range 32).map (fun (i : Nat) => (i : Int))) = 1188919630 := by decide +kernel
theorem f0 : frm [] = [0, 81, 83, 125, 82] := by decide +kernel
theorem f3 : (frm [97, 98, 99]).length = 8 := by decide +kernel
theorem o3 : opn (frm [97, 98, 99] ++ [7]) = ([97, 98, 99], 8, 0) := by decide +kernel
theorem o4 : (opn [0, 82, 83, 125, 82]).2.2 = 14 := by decide +kernel
theorem o5 : (opn [1]).2.2 = 2 := by decide +kernel
theorem o6 : (opn [130, 128, 8]).2.2 = 3 := by decide +kernel
theorem o7 : (opn [6]).2.2 = 13 := by decide +kernel
def ups (n : Nat) : List Int := (List.range n).map (fun (i : Nat) => (i : Int))
theorem ups_succ (n : Nat) : ups (n + 1) = ups n ++ [(n : Int)] := by
  unfold ups
  rw [List.range_succ, List.map_append]
  rfl
theorem ups_len (n : Nat) : (ups n).length = n := by simp [ups]
theorem awake_l0 : ∀ (d i m : Nat), i + d = 32 → dancestudiolaw08_awake.l0 (m + d + 1) (List.replicate i 0) (List.replicate i 255) (ups i) (i : Int) = dancestudiolaw08_awake.l0 (m + 1) (List.replicate 32 0) (List.replicate 32 255) (ups 32) 32 := by
  intro d
  induction d with
  | zero =>
    intro i m h
    obtain rfl : i = 32 := by omega
    rfl
  | succ d ih =>
    intro i m h
    obtain ⟨K, hK⟩ : ∃ K, K = m + (d + 1) := ⟨_, rfl⟩
    rw [← hK]
    conv => lhs; rw [dancestudiolaw08_awake.l0]
    rw [if_pos (by omega), if_pos (by simp; omega), if_pos (by simp; omega), if_pos (by rw [ups_len]; omega), ← List.replicate_succ', ← List.replicate_succ', show ((i : Int) % 256) = (i : Int) by omega, ← ups_succ, w64 (by omega) (by omega), hK]
    exact ih (i + 1) m (by omega)
theorem rep_BY (n : Nat) (x : Int) (h0 : 0 ≤ x) (h1 : x ≤ 255) : BY (List.replicate n x) := by
  intro y hy
  rw [(List.mem_replicate.1 hy).2]
  exact ⟨h0, h1⟩
theorem ups_BY : BY (ups 32) := by
  intro y hy
  obtain ⟨i, hi, rfl⟩ := List.mem_map.1 hy
  have := List.mem_range.1 hi
  omega
theorem str_of (l : List Int) (bs : List UInt8) (h : l.map (fun n => UInt8.ofNat n.toNat) = bs) : (strOfNums l).toList = bs := by
  rw [Lib.strOfNums_toList]
  exact h
theorem frm_BY (c : List Int) (hb : BY c) : BY (frm c) := by
  intro y hy
  unfold frm at hy
  rcases List.mem_append.1 hy with h | h
  · rcases List.mem_append.1 h with h | h
    · exact enc_bytes _ y h
    · exact fourb_BY _ y h
  · exact hb y h
theorem abc_BY : BY [97, 98, 99] := by unfold BY; decide
theorem awake_f (k : Nat) (hk : 1000 ≤ k) : dancestudiolaw08_awake.f k = some true := by
  unfold dancestudiolaw08_awake.f
  obtain ⟨k, rfl⟩ : ∃ m, k = m + 32 + 1 := ⟨k - 33, by omega⟩
  have h := awake_l0 32 0 k rfl
  rw [show dancestudiolaw08_awake.l0 (k + 32 + 1) ([] : List Int) ([] : List Int) ([] : List Int) 0 = dancestudiolaw08_awake.l0 (k + 32 + 1) (List.replicate 0 0) (List.replicate 0 255) (ups 0) ((0 : Nat) : Int) from rfl, h]
  rw [dancestudiolaw08_awake.l0, if_neg (by decide)]
  rw [sum_f k _ (by unfold BY; decide) (by decide) (by simp; omega), Option.bind_some, s9, if_pos (by decide)]
  rw [sum_f k _ (by unfold BY; decide) (by decide) (by simp; omega), Option.bind_some, s0, if_pos (by decide)]
  rw [sum_f k _ (rep_BY 32 0 (by omega) (by omega)) (by simp) (by simp; omega), Option.bind_some, sz, if_pos (by decide)]
  rw [sum_f k _ (rep_BY 32 255 (by omega) (by omega)) (by simp) (by simp; omega), Option.bind_some, so, if_pos (by decide)]
  rw [sum_f k _ ups_BY (by rw [ups_len]; omega) (by rw [ups_len]; omega), Option.bind_some, show ext 0 (ups 32) = 1188919630 from su, if_pos (by decide)]
  have hB : BY (frm [97, 98, 99] ++ [7]) := by
    intro y hy
    rcases List.mem_append.1 hy with h | h
    · exact frm_BY _ abc_BY y h
    · rw [List.mem_singleton.1 h]; omega
  have hL : (frm [97, 98, 99] ++ [7]).length = 9 := by rw [List.length_append, f3]; rfl
  rw [frame_f k _ (by unfold BY; decide) (by decide) (by simp; omega), if_neg (by decide), Option.bind_some, if_pos rfl, f0, if_pos (str_of [0, 81, 83, 125, 82] [0, 81, 83, 125, 82] rfl)]
  rw [frame_f k _ abc_BY (by decide) (by simp; omega), if_neg (by decide), Option.bind_some, if_pos rfl, if_pos (by rw [f3]; rfl), if_pos (by rw [f3]; omega), open_f k _ hB (by omega) (by omega), Option.bind_some, o3, if_pos rfl, if_pos rfl, if_pos (str_of [97, 98, 99] [97, 98, 99] rfl)]
  rw [open_f k _ (by unfold BY; decide) (by decide) (by simp; omega), Option.bind_some, open_f k _ (by unfold BY; decide) (by decide) (by simp; omega), Option.bind_some, open_f k _ (by unfold BY; decide) (by decide) (by simp; omega), Option.bind_some, open_f k _ (by unfold BY; decide) (by decide) (by simp; omega), Option.bind_some, if_pos o4, if_pos o5, if_pos o6, o7]
  rfl
end Go.Proofs.Ytobehfghepbhbaa.CrcImpl
