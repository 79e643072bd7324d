/- The chapter's examples hold; integers and sizes: WireInts, WireSizes. -/
import Derived.Test.YtmmnhokejadgaaaImplB
import Derived.Test.YtmmnhokejadgaaaX4
import Derived.Test.YtmmnhokejadgaaaX9
import Derived.Lib.Bytes
namespace Go.Proofs.Ytmmnhokejadgaaa.WImpl
open Go.RowKit Go.Proofs.YtmmnhokejadgaaaW.PrintWords Go.Proofs.Ytmmnhokejadgaaa.X Go.Proofs.Ytmmnhokejadgaaa.WPlain
set_option linter.unusedVariables false
theorem wf64 {n : Int} (h : (Lit.int .i64 n).wf = true) : I64 n := by
  simp only [Lit.wf, IntKind.min, IntKind.max, IntKind.signed, IntKind.bits, Bool.and_eq_true, decide_eq_true_eq, if_true] at h
  unfold I64
  omega
theorem wfu8 {n : Int} (h : (Lit.int .u8 n).wf = true) : 0 ≤ n ∧ n ≤ 255 := by
  simp only [Lit.wf, IntKind.min, IntKind.max, IntKind.signed, IntKind.bits, Bool.and_eq_true] at h
  simp at h
  omega
theorem takes_f (k : Nat) (a b c : Int) (l : List Int) (h : tki l = (a, b, c)) (hb : BY l) (hl : l.length ≤ 20) (hk : 60 ≤ k) : dancestudiolaw07_takes.f k a b c l = some true := by
  unfold dancestudiolaw07_takes.f
  rw [takeInt_f k l hb (by omega) (by omega), h]
  simp
theorem str_of (l : List Int) (bs : List UInt8) (h : l.map (fun n => UInt8.ofNat n.toNat) = bs) : (strOfNums l).toList = bs := by
  rw [Lib.strOfNums_toList]
  exact h
theorem enc150 : enc 150 = [172, 2] := by unfold enc; rw [show zz 150 = 300 from rfl, vi_big _ (by omega), show 300 / 128 = 2 from rfl, vi_small _ (by omega)]; rfl
theorem encm64 : enc (-64) = [127] := by unfold enc; rw [show zz (-64) = 127 from rfl, vi_small _ (by omega)]; rfl
theorem enc64 : enc 64 = [128, 1] := by unfold enc; rw [show zz 64 = 128 from rfl, vi_big _ (by omega), show 128 / 128 = 1 from rfl, vi_small _ (by omega)]; rfl
theorem enc2 : enc 2 = [4] := by unfold enc; rw [show zz 2 = 4 from rfl, vi_small _ (by omega)]; rfl
theorem enc1 : enc 1 = [2] := by unfold enc; rw [show zz 1 = 2 from rfl, vi_small _ (by omega)]; rfl
theorem encm1 : enc (-1) = [1] := by unfold enc; rw [show zz (-1) = 1 from rfl, vi_small _ (by omega)]; rfl
theorem BYd (l : List Int) (h : l.all (fun x => decide (0 ≤ x) && decide (x ≤ 255)) = true) : BY l := by
  intro x hx
  have := List.all_eq_true.1 h x hx
  simpa using this
theorem awake_j2 (k : Nat) (hk : 100 ≤ k) : dancestudiolaw07_awake.j2 k false = some true := by
  obtain ⟨k, rfl⟩ : ∃ m, k = m + 1 := ⟨k - 1, by omega⟩
  simp only [dancestudiolaw07_awake.j2]
  rw [if_neg (by simp), takeList_f k _ 2 (BYd _ rfl) (by simp) (by simp; omega), show tkl [4, 2, 1, 7] 2 = ([1, -1], 3, 0) from rfl]
  simp only [Option.bind_some]
  rw [ints_f k _ _ (by simp) (by simp; omega)]
  simp only [Option.bind_some, decide_true, if_true]
  rw [putList_f k [] [1, -1] (fun x hx => by simp at hx; rcases hx with rfl | rfl <;> exact ⟨by omega, by omega⟩) (by simp) (by simp) (by simp; omega)]
  simp only [Option.bind_some]
  rw [show ([] ++ enc (([1, -1] : List Int).length : Nat) ++ encs [1, -1] : List Int) = [4, 2, 1] by
    rw [show ((([1, -1] : List Int).length : Nat) : Int) = 2 from rfl, enc2]
    simp [encs, enc1, encm1]]
  rw [str_of _ [4, 2, 1] rfl]
  rfl
theorem hi_f : (⟨#[104, 105]⟩ : ByteArray).size = 2 := rfl
theorem awake_j1 (k : Nat) (hk : 110 ≤ k) : dancestudiolaw07_awake.j1 k false = some true := by
  obtain ⟨k, rfl⟩ : ∃ m, k = m + 1 := ⟨k - 1, by omega⟩
  simp only [dancestudiolaw07_awake.j1]
  rw [if_neg (by simp), takeText_f k [4, 104, 105] 2 (BYd _ rfl) (by simp) (by simp; omega), takeText_f k [4, 104, 105] 1 (BYd _ rfl) (by simp) (by simp; omega), takeText_f k [1] 9 (BYd _ rfl) (by simp) (by simp; omega)]
  simp only [Option.bind_some]
  rw [show tkt [4, 104, 105] 2 = (strOfNums [104, 105], 3, 0) from rfl, show (tkt [4, 104, 105] 1).2.2 = 3 from rfl, show (tkt [1] 9).2.2 = 2 from rfl]
  simp only [if_true]
  rw [if_pos (str_of [104, 105] [104, 105] rfl), putText_f k [] _ (by rw [hi_f]; simp) (by omega)]
  simp only [Option.bind_some]
  rw [hi_f, show (([] : List Int) ++ enc ((2 : Nat) : Int) ++ bytesOf ⟨#[104, 105]⟩) = [4, 104, 105] by rw [show ((2 : Nat) : Int) = 2 from rfl, enc2]; rfl, str_of _ [4, 104, 105] rfl]
  exact awake_j2 k (by omega)
theorem awake_j0 (k : Nat) (hk : 120 ≤ k) : dancestudiolaw07_awake.j0 k false = some true := by
  obtain ⟨k, rfl⟩ : ∃ m, k = m + 1 := ⟨k - 1, by omega⟩
  simp only [dancestudiolaw07_awake.j0]
  rw [if_neg (by simp), takes_f k 150 2 0 _ rfl (BYd _ rfl) (by simp) (by omega), takes_f k 0 0 13 _ rfl (BYd _ rfl) (by simp) (by omega), takes_f k 0 0 13 _ rfl (BYd _ rfl) (by simp) (by omega), takes_f k 0 0 2 _ rfl (BYd _ rfl) (by simp) (by omega), takes_f k 0 0 12 _ rfl (BYd _ rfl) (by simp) (by omega)]
  simp only [Option.bind_some, if_true, Bool.not_true]
  exact awake_j1 k (by omega)
theorem awake_f (k : Nat) (hk : 130 ≤ k) : dancestudiolaw07_awake.f k = some true := by
  unfold dancestudiolaw07_awake.f
  rw [putInt_f k [] 150 ⟨by omega, by omega⟩ (by simp) (by omega), putInt_f k [] (-64) ⟨by omega, by omega⟩ (by simp) (by omega), putInt_f k [] 64 ⟨by omega, by omega⟩ (by simp) (by omega)]
  simp only [Option.bind_some, List.nil_append]
  rw [enc150, encm64, enc64, if_pos (str_of [172, 2] [172, 2] rfl), if_pos (str_of [127] [127] rfl), str_of [128, 1] [128, 1] rfl]
  exact awake_j0 k (by omega)
theorem bytes_f (a b : List Int) (h : a = b) : dancestudioref07_Bytes.f a b = some true := by
  unfold dancestudioref07_Bytes.f
  rw [h]
  simp
end Go.Proofs.Ytmmnhokejadgaaa.WImpl
namespace Go.Proofs.Ytmmnhokejadgaaa.Pure
open Go.RowKit Go.Proofs.YtmmnhokejadgaaaW.PrintWords Go.Proofs.Ytmmnhokejadgaaa.X Go.Proofs.Ytmmnhokejadgaaa.WPlain Go.Proofs.Ytmmnhokejadgaaa.WImpl

theorem WireInts : dancestudiolaw07_WireInts.Pure := by
  intro n l hn hm hl hb
  have hB : BY l := fun x hx => wfu8 (hb x hx)
  have hN := wf64 hn
  refine ⟨l.length + 160, ?_⟩
  generalize hk : l.length + 160 = k
  unfold dancestudiolaw07_WireInts.f
  rw [takeInt_f _ l hB (by omega) (by omega), refTakeInt_f _ l hB (by omega) (by omega), Option.bind_some, Option.bind_some, if_pos rfl, if_pos rfl, if_pos rfl]
  rw [own_f l (by omega)]
  rw [Option.bind_some]
  rw [putInt_f _ l n hN (by omega) (by omega)]
  rw [Option.bind_some]
  rw [refPutInt_f _ l n hN (by omega) (by omega)]
  rw [Option.bind_some]
  rw [bytes_f _ _ rfl]
  rw [Option.bind_some, if_pos rfl, awake_f _ (by omega), Option.bind_some]

/-- The number of bytes grows with the number. -/
theorem vi_mono : ∀ (a b : Nat), a ≤ b → (vi a).length ≤ (vi b).length := by
  intro a
  induction a using Nat.strongRecOn with
  | _ a ih =>
    intro b h
    by_cases ha : a < 128
    · rw [vi_small a ha]; exact vi_pos b
    · have hb : ¬ b < 128 := by omega
      rw [vi_big a ha, vi_big b hb]
      have := ih (a / 128) (by omega) (b / 128) (by omega)
      simp only [List.length_cons]
      omega
theorem vi_one (u : Nat) : (vi u).length = 1 ↔ u < 128 := by
  by_cases h : u < 128
  · rw [vi_small u h]; simp [h]
  · rw [vi_big u h]
    have := vi_pos (u / 128)
    simp only [List.length_cons]
    omega
theorem WireSizes : dancestudiolaw07_WireSizes.Pure := by
  intro n m hn hm
  have hN := wf64 hn
  have hM := wf64 hm
  refine ⟨160, ?_⟩
  generalize hk : 160 = K
  have hp := enc_pos n
  have hl := enc_len n hN
  have hone : ((enc n).length = 1) ↔ (-64 ≤ n ∧ n ≤ 63) := by
    unfold enc
    rw [vi_one]
    unfold zz
    split <;> omega
  have hmono : (n ≥ 0 ∧ m ≥ n ∨ n < 0 ∧ m ≤ n) → (enc n).length ≤ (enc m).length := by
    intro h
    unfold enc
    apply vi_mono
    unfold zz
    split <;> split <;> omega
  have hj1 : ∀ k, 140 ≤ k → dancestudiolaw07_WireSizes.j1 k false = some true := by
    intro k hk
    obtain ⟨k, rfl⟩ : ∃ m, k = m + 1 := ⟨k - 1, by omega⟩
    simp only [dancestudiolaw07_WireSizes.j1]
    rw [if_neg (by simp), awake_f _ (by omega), Option.bind_some]
  have hj0 : ∀ k, 150 ≤ k → dancestudiolaw07_WireSizes.j0 k n m ((enc n).length : Int) ((enc m).length : Int) false = some true := by
    intro k hk
    obtain ⟨k, rfl⟩ : ∃ m, k = m + 1 := ⟨k - 1, by omega⟩
    simp only [dancestudiolaw07_WireSizes.j0]
    rw [if_neg (by simp)]
    by_cases h1 : n ≥ 0
    · rw [if_pos h1]
      by_cases h2 : m ≥ n
      · have := hmono (.inl ⟨h1, h2⟩)
        rw [if_pos h2, if_neg (by omega), if_neg (by omega)]
        exact hj1 k (by omega)
      · rw [if_neg h2, if_neg (by omega)]
        exact hj1 k (by omega)
    · rw [if_neg h1, if_pos (by omega)]
      by_cases h2 : m ≤ n
      · have := hmono (.inr ⟨by omega, h2⟩)
        rw [if_pos h2, show decide (((enc m).length : Int) < ((enc n).length : Int)) = false from decide_eq_false (by omega)]
        exact hj1 k (by omega)
      · rw [if_neg h2]
        exact hj1 k (by omega)
  unfold dancestudiolaw07_WireSizes.f
  rw [putInt_f _ [] n hN (by simp) (by omega), putInt_f _ [] m hM (by simp) (by omega)]
  rw [Option.bind_some, Option.bind_some, List.nil_append, List.nil_append]
  rw [if_neg (by omega), if_neg (by omega)]
  by_cases h1 : n ≥ -64
  · rw [if_pos h1]
    have : ((((enc n).length : Int) == 1) != (decide (n ≤ 63))) = false := by
      rw [bne_eq_false_iff_eq, Bool.eq_iff_iff]
      simp only [beq_iff_eq, decide_eq_true_eq]
      constructor
      · intro h; exact (hone.1 (by omega)).2
      · intro h; have := hone.2 ⟨h1, h⟩; omega
    rw [this]
    exact hj0 K (by omega)
  · rw [if_neg h1]
    have : ((((enc n).length : Int) == 1) != false) = false := by
      rw [bne_eq_false_iff_eq, beq_eq_false_iff_ne]
      intro h
      exact h1 (hone.1 (by omega)).1
    rw [this]
    exact hj0 K (by omega)
end Go.Proofs.Ytmmnhokejadgaaa.Pure
