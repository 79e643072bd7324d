/- The package crc and its reference, as printed: Open. -/
import Derived.Test.YtobehfghepbhbaaX26
import Derived.Test.YtobehfghepbhbaaX21
import Derived.Test.YtobehfghepbhbaaX19
import Derived.Test.YtobehfghepbhbaaX10
import Derived.Test.YtobehfghepbhbaaCrcOpen
import Derived.Lib.Bytes
namespace Go.Proofs.Ytobehfghepbhbaa.CrcImpl
open Go.RowKit Go.Proofs.YtobehfghepbhbaaW.PrintWords Go.Proofs.Ytobehfghepbhbaa.X Go.Proofs.Ytobehfghepbhbaa.WPlain Go.Proofs.Ytobehfghepbhbaa.WImpl Go.Proofs.Ytobehfghepbhbaa.Crc
set_option linter.unusedVariables false

theorem tki_range (l : List Int) (hb : BY l) : I64 (tki l).1 := by
  by_cases h : (tki l).2.2 = 0
  · obtain ⟨u, r, hu, _, h2⟩ := tki_once l hb h
    rw [h2]
    exact unzz_range u hu
  · rw [(tki_bad l h).1]
    exact ⟨by omega, by omega⟩
theorem four_of {l : List Int} (hb : BY l) (h : 4 ≤ l.length) : ∃ (a b c d : Nat) (r : List Int), l = (a : Int) :: (b : Int) :: (c : Int) :: (d : Int) :: r ∧ a ≤ 255 ∧ b ≤ 255 ∧ c ≤ 255 ∧ d ≤ 255 := by
  match l, h with
  | a :: b :: c :: d :: r, _ =>
    have ha := hb a (by simp)
    have hb' := hb b (by simp)
    have hc := hb c (by simp)
    have hd := hb d (by simp)
    exact ⟨a.toNat, b.toNat, c.toNat, d.toNat, r, by rw [Int.toNat_of_nonneg ha.1, Int.toNat_of_nonneg hb'.1, Int.toNat_of_nonneg hc.1, Int.toNat_of_nonneg hd.1], by omega, by omega, by omega, by omega⟩
theorem drop_next {l : List Int} {n : Nat} {x : Int} {r : List Int} (h : l.drop n = x :: r) : l.drop (n + 1) = r := (rd_of_drop h).2.2
theorem open_all (l : List Int) (len n m : Nat) (hb : BY l) (hl : l.length ≤ 1000000) (hn : n + 4 + len ≤ l.length) (hm : 10 * l.length + 20 ≤ m) :
    crc_Open.l0 (m + 5) l (len : Int) (n : Int) 0 0 = some (if ext 0 (l.take n ++ (l.drop (n + 4)).take len) = un4 (l.drop n) then ((l.drop (n + 4)).take len, ((n + 4 + len : Nat) : Int), 0) else ([], 0, 14)) := by
  obtain ⟨a, b, c, d, r, he, ha, hb', hc, hd⟩ := four_of (l := l.drop n) (fun y hy => hb y (List.mem_of_mem_drop hy)) (by simp; omega)
  have e1 := drop_next he
  have e2 := drop_next e1
  have e3 := drop_next e2
  rw [show crc_Open.l0 (m + 5) l (len : Int) (n : Int) 0 0 = crc_Open.l0 (m + 4 + 1) l (len : Int) (n : Int) ((0 : Nat) : Int) ((0 : Nat) : Int) from rfl]
  rw [open_l0 l (len : Int) n (m + 4) 0 0 a _ (by omega) ha (by simp) hl he]
  rw [open_l0 l (len : Int) n (m + 3) 1 _ b _ (by omega) hb' (by simp; omega) hl e1]
  rw [open_l0 l (len : Int) n (m + 2) 2 _ c _ (by omega) hc (by simp; omega) hl e2]
  rw [open_l0 l (len : Int) n (m + 1) 3 _ d _ (by omega) hd (by simp; omega) hl e3]
  have hu : 0 + a * 2 ^ (8 * 0) + b * 2 ^ (8 * 1) + c * 2 ^ (8 * 2) + d * 2 ^ (8 * 3) = un4 (l.drop n) := by
    rw [he]
    simp [un4]
    omega
  rw [hu]
  exact open_end l len n m _ hb hl hn hm
theorem open_f (k : Nat) (l : List Int) (hb : BY l) (hl : l.length ≤ 1000000) (hk : 10 * l.length + 60 ≤ k) : crc_Open.f k l = some (opn l) := by
  obtain ⟨hn0, hn1, hn2⟩ := tki_len l
  have hr := tki_range l hb
  unfold crc_Open.f opn
  rw [takeInt_f k l hb (by omega) (by omega), Option.bind_some]
  by_cases h0 : (tki l).2.2 = 0
  · rw [if_pos h0, if_pos h0]
    by_cases h1 : (tki l).1 < 0
    · rw [if_pos h1, if_pos h1]
    · rw [if_neg h1, if_neg h1]
      by_cases h2 : (tki l).1 > 65536
      · rw [if_pos h2, if_pos h2]
      · rw [if_neg h2, if_neg h2, w64 (x := (l.length : Int) - (tki l).2.1) (by omega) (by omega), w64 (x := 4 + (tki l).1) (by omega) (by omega)]
        by_cases h3 : (l.length : Int) < (tki l).2.1 + 4 + (tki l).1
        · rw [if_pos h3, if_pos (by omega)]
        · rw [if_neg h3, if_neg (by omega)]
          obtain ⟨k, rfl⟩ : ∃ m, k = m + 5 := ⟨k - 5, by omega⟩
          have e1 : (tki l).1 = (((tki l).1.toNat : Nat) : Int) := by omega
          have e2 : (tki l).2.1 = (((tki l).2.1.toNat : Nat) : Int) := by omega
          rw [e1, e2]
          simp only [Int.toNat_natCast]
          rw [open_all l _ _ k hb hl (by omega) (by omega)]
          congr 1
  · rw [if_neg h0, if_neg h0]
theorem bytes_inj : ∀ {a b : List Int}, BY a → BY b → a.map (fun n => UInt8.ofNat n.toNat) = b.map (fun n => UInt8.ofNat n.toNat) → a = b := by
  intro a
  induction a with
  | nil => intro b _ _ h; cases b with
    | nil => rfl
    | cons _ _ => simp at h
  | cons x a ih => intro b ha hb h; cases b with
    | nil => simp at h
    | cons y b =>
      simp only [List.map_cons, List.cons.injEq] at h
      have h1 := congrArg UInt8.toNat h.1
      have hx := ha x (by simp)
      have hy := hb y (by simp)
      simp only [UInt8.toNat_ofNat'] at h1
      rw [Nat.mod_eq_of_lt (by omega), Nat.mod_eq_of_lt (by omega)] at h1
      rw [ih (fun z hz => ha z (by simp [hz])) (fun z hz => hb z (by simp [hz])) h.2]
      congr 1
      omega
theorem str_iff {a b : List Int} (ha : BY a) (hb : BY b) : (strOfNums a).toList = (strOfNums b).toList ↔ a = b := by
  rw [Lib.strOfNums_toList, Lib.strOfNums_toList]
  exact ⟨bytes_inj ha hb, fun h => by rw [h]⟩
theorem same_f {a b : List Int} (ha : BY a) (hb : BY b) : dancestudioref08_Same.f a b = some (decide (a = b)) := by
  unfold dancestudioref08_Same.f
  by_cases h : a = b
  · rw [h]; simp
  · rw [decide_eq_false h]
    congr 1
    exact beq_eq_false_iff_ne.2 (fun hh => h ((str_iff ha hb).1 hh))
theorem four_f (s : Nat) (hs : s < 4294967296) : dancestudioref08_four.f (s : Int) = some (fourb s) := by
  unfold dancestudioref08_four.f fourb
  have e : ∀ x : Int, 0 ≤ x → x < 4294967296 → Go.bits .and .u32 x 255 = x % 256 := by
    intro x h0 h1
    rw [u32_and x 255 h0 h1 (by omega) (by omega), show (255 : Int).toNat = 255 from rfl, nat_mask8]
    omega
  rw [e _ (by omega) (by omega), e _ (by omega) (by omega), e _ (by omega) (by omega)]
  congr 1
  simp only [List.cons.injEq, and_true]
  refine ⟨by omega, by omega, by omega, by omega⟩
theorem fourb_iff {s : Nat} (hs : s < 4294967296) {a b c d : Nat} (ha : a ≤ 255) (hb : b ≤ 255) (hc : c ≤ 255) (hd : d ≤ 255) : fourb s = [(a : Int), (b : Int), (c : Int), (d : Int)] ↔ s = a + 256 * b + 65536 * c + 16777216 * d := by
  unfold fourb
  simp only [List.cons.injEq, and_true]
  constructor
  · rintro ⟨h1, h2, h3, h4⟩; omega
  · intro h; refine ⟨by omega, by omega, by omega, by omega⟩
theorem ropen_f (k : Nat) (l : List Int) (hb : BY l) (hl : l.length ≤ 1000000) (hk : 10 * l.length + 60 ≤ k) : dancestudioref08_Open.f k l = some (opn l) := by
  obtain ⟨hn0, hn1, hn2⟩ := tki_len l
  have hr := tki_range l hb
  unfold dancestudioref08_Open.f opn
  rw [refTakeInt_f k l hb (by omega) (by omega), Option.bind_some]
  by_cases h0 : (tki l).2.2 = 0
  · rw [if_pos h0, if_pos h0]
    by_cases h1 : (tki l).1 < 0
    · rw [if_pos h1, if_pos h1]
    · rw [if_neg h1, if_neg h1]
      by_cases h2 : (tki l).1 > 65536
      · rw [if_pos h2, if_pos h2]
      · rw [if_neg h2, if_neg h2, w64 (x := (tki l).2.1 + 4) (by omega) (by omega), w64 (x := (tki l).2.1 + 4 + (tki l).1) (by omega) (by omega)]
        by_cases h3 : (l.length : Int) < (tki l).2.1 + 4 + (tki l).1
        · rw [if_pos h3, if_pos h3]
        · rw [if_neg h3, if_neg h3]
          have e1 : (tki l).1 = (((tki l).1.toNat : Nat) : Int) := by omega
          have e2 : (tki l).2.1 = (((tki l).2.1.toNat : Nat) : Int) := by omega
          have hN : (tki l).2.1.toNat + 4 + (tki l).1.toNat ≤ l.length := by omega
          rw [e1, e2]
          simp only [Int.toNat_natCast]
          generalize (tki l).1.toNat = len at hN
          generalize (tki l).2.1.toNat = n at hN
          have c1 : (((n : Int) + 4 + (len : Int))).toNat = n + 4 + len := by omega
          have c2 : ((n : Int) + 4).toNat = n + 4 := by omega
          have c3 : (l.take (n + 4 + len)).drop (n + 4) = (l.drop (n + 4)).take len := by rw [List.drop_take]; congr 1; omega
          have c4 : (l.take (n + 4)).drop n = (l.drop n).take 4 := by rw [List.drop_take]; congr 1; omega
          have hT : BY (l.take n) := fun y hy => hb y (List.mem_of_mem_take hy)
          have hC : BY ((l.drop (n + 4)).take len) := fun y hy => hb y (List.mem_of_mem_drop (List.mem_of_mem_take hy))
          rw [c1, c2, c3, c4, if_pos (by omega), if_pos (by omega), rsum_f k _ hT (by simp; omega) (by simp; omega), Option.bind_some, if_pos (by omega), if_pos (by omega), if_pos (by omega)]
          rw [rextend_f k _ _ (ext_lt (by omega) hT) hC (by simp; omega) (by simp; omega), Option.bind_some, ext_append]
          have hlt := ext_lt (s := 0) (l := l.take n ++ (l.drop (n + 4)).take len) (by omega) (fun y hy => (List.mem_append.1 hy).elim (hT y) (hC y))
          rw [four_f _ hlt, Option.bind_some, if_pos (by omega), if_pos (by omega)]
          rw [same_f (fourb_BY _) (fun y hy => hb y (List.mem_of_mem_drop (List.mem_of_mem_take hy))), Option.bind_some]
          obtain ⟨a, b, c, d, r, he, ha, hb', hc, hd⟩ := four_of (l := l.drop n) (fun y hy => hb y (List.mem_of_mem_drop hy)) (by simp; omega)
          rw [he, show ((a : Int) :: (b : Int) :: (c : Int) :: (d : Int) :: r).take 4 = [(a : Int), (b : Int), (c : Int), (d : Int)] from rfl, show un4 ((a : Int) :: (b : Int) :: (c : Int) :: (d : Int) :: r) = a + 256 * b + 65536 * c + 16777216 * d by simp [un4]]
          by_cases hh : ext 0 (l.take n ++ (l.drop (n + 4)).take len) = a + 256 * b + 65536 * c + 16777216 * d
          · rw [if_pos hh, decide_eq_true ((fourb_iff hlt ha hb' hc hd).2 hh), if_pos rfl, if_pos (by simp; omega), List.nil_append]
          · rw [if_neg hh, decide_eq_false (fun h => hh ((fourb_iff hlt ha hb' hc hd).1 h)), if_neg (by simp)]
  · rw [if_neg h0, if_neg h0]
end Go.Proofs.Ytobehfghepbhbaa.CrcImpl
