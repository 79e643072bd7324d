/- The package crc, as printed: frames. -/
import Derived.Test.YtobehfghepbhbaaX9
import Derived.Test.YtobehfghepbhbaaX6
import Derived.Test.YtobehfghepbhbaaX10
import Derived.Test.YtobehfghepbhbaaCrcImpl
namespace Go.Proofs.Ytobehfghepbhbaa.CrcImpl
open Go.RowKit Go.Proofs.YtobehfghepbhbaaW.PrintWords Go.Proofs.Ytobehfghepbhbaa.X Go.Proofs.Ytobehfghepbhbaa.WPlain Go.Proofs.Ytobehfghepbhbaa.WImpl Go.Proofs.Ytobehfghepbhbaa.Crc
set_option linter.unusedVariables false

/-- The four bytes of a checksum. -/
def fourb (s : Nat) : List Int := [((s % 256 : Nat) : Int), ((s / 256 % 256 : Nat) : Int), ((s / 65536 % 256 : Nat) : Int), ((s / 16777216 % 256 : Nat) : Int)]
theorem fourb_BY (s : Nat) : BY (fourb s) := by
  intro x hx
  simp only [fourb, List.mem_cons, List.not_mem_nil, or_false] at hx
  rcases hx with rfl | rfl | rfl | rfl <;> omega
/-- The frame of a content. -/
def frm (c : List Int) : List Int := enc c.length ++ fourb (ext 0 (enc c.length ++ c)) ++ c
theorem shr_8 (s i : Nat) (hi : i < 4) : shr .u32 (s : Int) (wrap64 (8 * (i : Int))) = ((s / 2 ^ (8 * i) : Nat) : Int) := by
  rw [w64 (by omega) (by omega)]
  unfold shr
  have e : min (8 * (i : Int)).toNat (IntKind.bits .u32) = 8 * i := by
    rw [show IntKind.bits .u32 = 32 from rfl]
    omega
  rw [e]
  simp
theorem frame_l0 (c : List Int) (s : Nat) (m i : Nat) (x : List Int) (hi : i < 4) (hx : x.length < 140737488355328) : crc_Frame.l0 (m + 1) c x (s : Int) (i : Int) = crc_Frame.l0 m c (x ++ [((s / 2 ^ (8 * i) % 256 : Nat) : Int)]) (s : Int) ((i + 1 : Nat) : Int) := by
  simp only [crc_Frame.l0]
  rw [if_pos (by omega), shr_8 s i hi, if_pos (by rw [w64 (by omega) (by omega)]; omega), if_pos hx, w64 (by omega) (by omega)]
  rfl
theorem frame_end (c : List Int) (s : Int) (m : Nat) (x : List Int) (hx : x.length + c.length < 140737488355328) : crc_Frame.l0 (m + 1) c x s ((4 : Nat) : Int) = some (x ++ c, 0) := by
  simp only [crc_Frame.l0]
  rw [if_neg (by omega), if_pos hx]
theorem frame_all (c : List Int) (s : Nat) (m : Nat) (x : List Int) (hx : x.length + c.length + 10 < 140737488355328) : crc_Frame.l0 (m + 5) c x (s : Int) 0 = some (x ++ fourb s ++ c, 0) := by
  rw [show (0 : Int) = ((0 : Nat) : Int) from rfl, frame_l0 c s (m + 4) 0 x (by omega) (by omega), frame_l0 c s (m + 3) 1 _ (by omega) (by simp; omega), frame_l0 c s (m + 2) 2 _ (by omega) (by simp; omega), frame_l0 c s (m + 1) 3 _ (by omega) (by simp; omega), frame_end c s m _ (by simp; omega)]
  simp only [List.append_assoc, List.cons_append, List.nil_append]
  rw [show 2 ^ (8 * 0) = 1 from rfl, show 2 ^ (8 * 1) = 256 from rfl, show 2 ^ (8 * 2) = 65536 from rfl, show 2 ^ (8 * 3) = 16777216 from rfl, Nat.div_one]
  rfl
theorem frame_f (k : Nat) (c : List Int) (hb : BY c) (hl : c.length ≤ 1000000) (hk : 10 * c.length + 200 ≤ k) : crc_Frame.f k c = some (if (c.length : Int) > 65536 then ([], 3) else (frm c, 0)) := by
  have h64 : I64 (c.length : Int) := ⟨by omega, by omega⟩
  have he := enc_len (c.length : Int) h64
  have hE : BY (enc (c.length : Int)) := enc_bytes _
  unfold crc_Frame.f
  split
  · rfl
  · have hp := putInt_f k [] (c.length : Int) h64 (by simp) (by omega)
    rw [List.nil_append] at hp
    rw [hp, Option.bind_some, sum_f k _ hE (by omega) (by omega), Option.bind_some, extend_f k _ c (ext_lt (by omega) hE) hb (by omega) (by omega), Option.bind_some, ext_append]
    obtain ⟨m, rfl⟩ : ∃ m, k = m + 5 := ⟨k - 5, by omega⟩
    rw [frame_all c _ m _ (by omega)]
    rfl
/-- The number of four bytes. -/
def un4 : List Int → Nat
  | a :: b :: c :: d :: _ => a.toNat + 256 * b.toNat + 65536 * c.toNat + 16777216 * d.toNat
  | _ => 0
theorem shl_8 (b i : Nat) (hi : i < 4) (hb : b ≤ 255) : shl .u32 (((b : Nat) : Int) % 4294967296) (wrap64 (8 * (i : Int))) = ((b * 2 ^ (8 * i) : Nat) : Int) := by
  rw [w64 (by omega) (by omega)]
  unfold shl
  have e : min (8 * (i : Int)).toNat (IntKind.bits .u32) = 8 * i := by
    rw [show IntKind.bits .u32 = 32 from rfl]
    omega
  rw [e, IntKind.wrap_u32', show ((b : Int) % 4294967296) = (b : Int) by omega]
  have h : i = 0 ∨ i = 1 ∨ i = 2 ∨ i = 3 := by omega
  rcases h with rfl | rfl | rfl | rfl <;> simp <;> omega
theorem or_8 (x b i : Nat) (hi : i < 4) (hb : b ≤ 255) (hx : x < 2 ^ (8 * i)) : Go.bits .or .u32 (x : Int) ((b * 2 ^ (8 * i) : Nat) : Int) = ((x + b * 2 ^ (8 * i) : Nat) : Int) := by
  have hlt : b * 2 ^ (8 * i) < 4294967296 := by
    have h : i = 0 ∨ i = 1 ∨ i = 2 ∨ i = 3 := by omega
    rcases h with rfl | rfl | rfl | rfl <;> simp <;> omega
  have hx2 : x < 4294967296 := by
    have h : i = 0 ∨ i = 1 ∨ i = 2 ∨ i = 3 := by omega
    rcases h with rfl | rfl | rfl | rfl <;> simp at hx <;> omega
  rw [u32_or_nat _ _ hx2 hlt, Nat.or_comm, nat_join (8 * i) _ _ (Nat.mul_mod_left _ _) hx, Nat.add_comm]
/-- What Open returns. -/
def opn (l : List Int) : List Int × Int × Int :=
  if (tki l).2.2 = 0 then
    if (tki l).1 < 0 then ([], 0, 2)
    else if (tki l).1 > 65536 then ([], 0, 3)
    else if (l.length : Int) < (tki l).2.1 + 4 + (tki l).1 then ([], 0, 13)
    else if ext 0 (l.take (tki l).2.1.toNat ++ (l.drop ((tki l).2.1.toNat + 4)).take (tki l).1.toNat) = un4 (l.drop (tki l).2.1.toNat) then ((l.drop ((tki l).2.1.toNat + 4)).take (tki l).1.toNat, (tki l).2.1 + 4 + (tki l).1, 0)
    else ([], 0, 14)
  else ([], 0, (tki l).2.2)
theorem clone_f (l : List Int) (hl : l.length < 140737488355328) : slices_Clone_byte_byte.f l = some l := by
  unfold slices_Clone_byte_byte.f
  rw [Option.bind_some, List.length_nil, Nat.zero_add, if_pos hl]
  rfl
theorem cut_mid' (l : List Int) (n len : Nat) : (l.take (((n + 4 + len : Nat) : Int)).toNat).drop (((n + 4 : Nat) : Int)).toNat = (l.drop (n + 4)).take len := by
  rw [Int.toNat_natCast, Int.toNat_natCast, List.drop_take]
  congr 1
  omega
theorem open_l0 (l : List Int) (len : Int) (n m i : Nat) (x b : Nat) (r : List Int) (hi : i < 4) (hb : b ≤ 255) (hx : x < 2 ^ (8 * i)) (hl : l.length ≤ 1000000) (hd : l.drop (n + i) = (b : Int) :: r) :
    crc_Open.l0 (m + 1) l len (n : Int) (x : Int) (i : Int) = crc_Open.l0 m l len (n : Int) ((x + b * 2 ^ (8 * i) : Nat) : Int) ((i + 1 : Nat) : Int) := by
  obtain ⟨h1, h2, h3⟩ := rd_of_drop hd
  simp only [crc_Open.l0]
  rw [if_pos (by omega), show wrap64 ((n : Int) + (i : Int)) = ((n + i : Nat) : Int) by rw [w64 (by omega) (by omega)]; omega, if_pos (by omega), if_pos (by omega), if_pos (by rw [w64 (by omega) (by omega)]; omega), h1, shl_8 b i hi hb, or_8 x b i hi hb hx, w64 (by omega) (by omega)]
  rfl
theorem open_end (l : List Int) (len n m x : Nat) (hb : BY l) (hl : l.length ≤ 1000000) (hn : n + 4 + len ≤ l.length) (hm : 10 * l.length + 20 ≤ m) :
    crc_Open.l0 (m + 1) l (len : Int) (n : Int) (x : Int) ((4 : Nat) : Int) = some (if ext 0 (l.take n ++ (l.drop (n + 4)).take len) = x then ((l.drop (n + 4)).take len, ((n + 4 + len : Nat) : Int), 0) else ([], 0, 14)) := by
  simp only [crc_Open.l0]
  rw [if_neg (by omega), show wrap64 ((n : Int) + 4) = ((n + 4 : Nat) : Int) by rw [w64 (by omega) (by omega)]; omega, show wrap64 (((n + 4 : Nat) : Int) + (len : Int)) = ((n + 4 + len : Nat) : Int) by rw [w64 (by omega) (by omega)]; omega, if_pos (by omega), if_pos (by omega), if_pos (by omega)]
  rw [cut_mid' l n len, clone_f _ (by simp; omega), Option.bind_some, if_pos (by omega), if_pos (by omega), Int.toNat_natCast, sum_f m _ (fun y hy => hb y (List.mem_of_mem_take hy)) (by simp; omega) (by simp; omega), Option.bind_some]
  rw [extend_f m _ _ (ext_lt (by omega) (fun y hy => hb y (List.mem_of_mem_take hy))) (fun y hy => hb y (List.mem_of_mem_drop (List.mem_of_mem_take hy))) (by simp; omega) (by simp; omega), Option.bind_some, ext_append]
  by_cases h : ext 0 (l.take n ++ (l.drop (n + 4)).take len) = x
  · rw [if_pos h, if_pos (by rw [h])]
  · rw [if_neg h, if_neg (fun hh => h (by omega))]
end Go.Proofs.Ytobehfghepbhbaa.CrcImpl
