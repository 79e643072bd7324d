/- Frames are opened: plain mathematics over opn and frm. -/
import Derived.Test.YtobehfghepbhbaaCrcAll
namespace Go.Proofs.Ytobehfghepbhbaa.CrcImpl
open Go.RowKit Go.Proofs.YtobehfghepbhbaaW.PrintWords Go.Proofs.Ytobehfghepbhbaa.X Go.Proofs.Ytobehfghepbhbaa.WPlain Go.Proofs.Ytobehfghepbhbaa.WImpl Go.Proofs.Ytobehfghepbhbaa.Crc
set_option linter.unusedVariables false
set_option linter.unusedSimpArgs false
theorem un4_fourb (s : Nat) (hs : s < 4294967296) (r : List Int) : un4 (fourb s ++ r) = s := by
  show (((s % 256 : Nat) : Int)).toNat + 256 * (((s / 256 % 256 : Nat) : Int)).toNat + 65536 * (((s / 65536 % 256 : Nat) : Int)).toNat + 16777216 * (((s / 16777216 % 256 : Nat) : Int)).toNat = s
  simp only [Int.toNat_natCast]
  omega
theorem tki_enc (n : Int) (h : I64 n) (r : List Int) : tki (enc n ++ r) = (n, ((enc n).length : Int), 0) := by
  unfold enc
  rw [tki_vi _ (zz_lt n h.1 h.2), unzz_zz]
theorem frm_len (c : List Int) : (frm c).length = (enc c.length).length + 4 + c.length := by
  unfold frm
  rw [List.length_append, List.length_append]
  rfl
/-- A frame is opened, whatever follows it. -/
theorem opn_frm (c r : List Int) (hb : BY c) (hl : c.length ≤ 65536) : opn (frm c ++ r) = (c, ((frm c).length : Int), 0) := by
  have h64 : I64 (c.length : Int) := ⟨by omega, by omega⟩
  have hE : BY (enc (c.length : Int)) := enc_bytes _
  have hs : ext 0 (enc c.length ++ c) < 4294967296 := ext_lt (by omega) (by
    intro x hx
    rcases List.mem_append.1 hx with h | h
    · exact hE x h
    · exact hb x h)
  have hfl := frm_len c
  have e1 : frm c ++ r = enc c.length ++ (fourb (ext 0 (enc c.length ++ c)) ++ (c ++ r)) := by
    unfold frm
    simp only [List.append_assoc]
  have htl : (frm c ++ r).length = (enc c.length).length + 4 + c.length + r.length := by rw [List.length_append, hfl]
  have d1 : (frm c ++ r).drop (enc c.length).length = fourb (ext 0 (enc c.length ++ c)) ++ (c ++ r) := by rw [e1, List.drop_left]
  have d2 : (frm c ++ r).drop ((enc c.length).length + 4) = c ++ r := by
    rw [← List.drop_drop, d1]
    rfl
  have t1 : (frm c ++ r).take (enc c.length).length = enc c.length := by rw [e1, List.take_left]
  have ht : tki (frm c ++ r) = ((c.length : Int), ((enc c.length).length : Int), 0) := by rw [e1]; exact tki_enc _ h64 _
  unfold opn
  rw [ht]
  dsimp only
  rw [if_pos rfl, if_neg (by omega), if_neg (by omega), if_neg (by omega), Int.toNat_natCast, Int.toNat_natCast, d1, d2, t1, List.take_left, if_pos (by rw [un4_fourb _ hs]), hfl]
  rfl
theorem enc_len3 (n : Nat) (h0 : 65535 ≤ n) (h1 : n ≤ 65536) : (enc (n : Int)).length = 3 := by
  have : n = 65535 ∨ n = 65536 := by omega
  rcases this with rfl | rfl
  · have e : zz ((65535 : Nat) : Int) = 131070 := by decide +kernel
    unfold enc
    rw [e, vi_big _ (by omega), vi_big _ (by omega), vi_small _ (by omega)]
    rfl
  · have e : zz ((65536 : Nat) : Int) = 131072 := by decide +kernel
    unfold enc
    rw [e, vi_big _ (by omega), vi_big _ (by omega), vi_small _ (by omega)]
    rfl
end Go.Proofs.Ytobehfghepbhbaa.CrcImpl
