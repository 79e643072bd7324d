/- Mirror images of stages. -/
import Derived.Test.YtmfcgmdecindnaaX44
import Derived.Test.YtmfcgmdecindnaaSLaws
import Derived.Test.YtmfcgmdecindnaaSRefA
import Derived.Test.YtmfcgmdecindnaaX43
import Derived.Test.YtmfcgmdecindnaaX45
namespace Go.Proofs.Ytmfcgmdecindnaa.SImpl
open Go.RowKit Go.Proofs.YtmfcgmdecindnaaW.PrintWords Go.Proofs.Ytmfcgmdecindnaa.X Go.Proofs.Ytmfcgmdecindnaa.Geo Go.Proofs.Ytmfcgmdecindnaa.GeoImpl
set_option linter.unusedVariables false
set_option linter.unusedSimpArgs false
def mir (b : Blk) : Blk := ⟨⟨-b.f0.f0, b.f0.f1⟩, b.f1⟩
theorem mir_mir (b : Blk) : mir (mir b) = b := by
  unfold mir
  simp only [Int.neg_neg]
theorem mir_ok (W D : Int) (b : Blk) : blkOk W D (mir b) = blkOk W D b := by
  rw [Bool.eq_iff_iff, blkOk_iff, blkOk_iff]
  unfold mir
  simp only
  omega
theorem chk_mir (W D : Int) (L : List Blk) : chk W D (L.map mir) = chk W D L := by
  unfold chk
  rw [List.length_map, List.all_map, show (blkOk W D ∘ mir) = blkOk W D from funext (fun b => mir_ok W D b)]
theorem map_mir_mir (L : List Blk) : (L.map mir).map mir = L := by
  rw [List.map_map, show (mir ∘ mir) = id from funext (fun b => mir_mir b), List.map_id]
/-- What Mirror returns. -/
def mirS (W D : Int) (L : List Blk) : Int × Int × List Blk × Int := if chk W D L = 0 then (W, D, L.map mir, 0) else (0, 0, [], chk W D L)
theorem mirror_l0 (W D : Int) (hw : W ≤ 65536) (hw0 : 0 ≤ W) (L : List Blk) (hL : L.length ≤ 1000) (X Y : Int) : ∀ (r : List Blk) (i k : Nat) (o : List Blk), L.drop i = r → r.length < k → o.length ≤ i → (∀ b ∈ r, blkOk W D b = true) → stage_Mirror.l0 k L (L.length : Int) (i : Int) X Y o = some (X, Y, o ++ r.map mir, 0) := by
  intro r
  induction r with
  | nil =>
    intro i k o hr hk _ _
    obtain ⟨k, rfl⟩ : ∃ m, k = m + 1 := ⟨k - 1, by omega⟩
    have : L.length ≤ i := by simpa using hr
    simp only [stage_Mirror.l0]
    rw [if_neg (by omega)]
    simp
  | cons b r ih =>
    intro i k o hr hk ho hb
    simp only [List.length_cons] at hk
    obtain ⟨k, rfl⟩ : ∃ m, k = m + 1 := ⟨k - 1, by omega⟩
    obtain ⟨h1, h2, h3⟩ := rdB_of_drop hr
    have hbb := (blkOk_iff W D b).1 (hb b (by simp))
    simp only [stage_Mirror.l0]
    rw [if_pos (by omega), if_pos (by omega), if_pos (by omega), if_pos (by omega), h1, GeoImpl.w64 (x := -b.f0.f0) (by omega) (by omega), GeoImpl.w64 (by omega) (by omega), show (i : Int) + 1 = ((i + 1 : Nat) : Int) by omega, ih (i + 1) k _ h3 (by omega) (by simp; omega) (fun c hc => hb c (by simp [hc]))]
    simp [mir]
theorem rmirror_l0 (W D : Int) (hw : W ≤ 65536) (hw0 : 0 ≤ W) (L : List Blk) (hL : L.length ≤ 1000) (X Y A B : Int) : ∀ (r : List Blk) (i k : Nat) (o : List Blk), L.drop i = r → r.length < k → o.length ≤ i → (∀ b ∈ r, blkOk W D b = true) → dancestudioref42_Mirror.l0 k (i : Int) A B L X Y o = some (X, Y, o ++ r.map mir, 0) := by
  intro r
  induction r with
  | nil =>
    intro i k o hr hk _ _
    obtain ⟨k, rfl⟩ : ∃ m, k = m + 1 := ⟨k - 1, by omega⟩
    have : L.length ≤ i := by simpa using hr
    simp only [dancestudioref42_Mirror.l0]
    rw [if_neg (by omega)]
    simp
  | cons b r ih =>
    intro i k o hr hk ho hb
    simp only [List.length_cons] at hk
    obtain ⟨k, rfl⟩ : ∃ m, k = m + 1 := ⟨k - 1, by omega⟩
    obtain ⟨h1, h2, h3⟩ := rdB_of_drop hr
    have hbb := (blkOk_iff W D b).1 (hb b (by simp))
    simp only [dancestudioref42_Mirror.l0]
    rw [if_pos (by omega), if_pos (by omega), if_pos (by omega), h1, GeoImpl.w64 (x := -b.f0.f0) (by omega) (by omega), GeoImpl.w64 (by omega) (by omega), show (i : Int) + 1 = ((i + 1 : Nat) : Int) by omega, ih (i + 1) k _ h3 (by omega) (by simp; omega) (fun c hc => hb c (by simp [hc]))]
    simp [mir]
theorem mirror_f (k : Nat) (W D : Int) (L : List Blk) (hk : 60 ≤ k) : stage_Mirror.f k W D L = some (mirS W D L) := by
  unfold stage_Mirror.f mirS
  rw [check_f k W D L (by omega), Option.bind_some]
  by_cases h : chk W D L = 0
  · rw [if_pos h, if_pos h]
    obtain ⟨⟨w1, w2, w3, w4, w5⟩, c2, c3⟩ := chk_ok h
    have := mirror_l0 W D w3 (by omega) L (by omega) W D L 0 k [] (by simp) (by omega) (by simp) (List.all_eq_true.1 c3)
    simpa using this
  · rw [if_neg h, if_neg h]
theorem rmirror_f (k : Nat) (W D : Int) (L : List Blk) (hk : 60 ≤ k) : dancestudioref42_Mirror.f k W D L = some (mirS W D L) := by
  unfold dancestudioref42_Mirror.f mirS
  rw [rcheck_f k W D L (by omega), Option.bind_some]
  by_cases h : chk W D L = 0
  · rw [if_pos h, if_pos h]
    obtain ⟨⟨w1, w2, w3, w4, w5⟩, c2, c3⟩ := chk_ok h
    have := rmirror_l0 W D w3 (by omega) L (by omega) W D W D L 0 k [] (by simp) (by omega) (by simp) (List.all_eq_true.1 c3)
    simpa using this
  · rw [if_neg h, if_neg h]
theorem same_l0 (L : List Blk) (hL : L.length ≤ 1000) (A B C E : Int) : ∀ (r : List Blk) (i k : Nat), L.drop i = r → r.length < k → dancestudioref42_Same.l0 k (i : Int) A B L C E L = some true := by
  intro r
  induction r with
  | nil =>
    intro i k hr hk
    obtain ⟨k, rfl⟩ : ∃ m, k = m + 1 := ⟨k - 1, by omega⟩
    have : L.length ≤ i := by simpa using hr
    simp only [dancestudioref42_Same.l0]
    rw [if_neg (by omega)]
  | cons b r ih =>
    intro i k hr hk
    simp only [List.length_cons] at hk
    obtain ⟨k, rfl⟩ : ∃ m, k = m + 1 := ⟨k - 1, by omega⟩
    obtain ⟨h1, h2, h3⟩ := rdB_of_drop hr
    simp only [dancestudioref42_Same.l0]
    rw [if_pos (by omega), if_pos (by omega), if_pos (by omega), if_neg (by simp), GeoImpl.w64 (by omega) (by omega), show (i : Int) + 1 = ((i + 1 : Nat) : Int) by omega]
    exact ih (i + 1) k h3 (by omega)
theorem same_f (k : Nat) (W D : Int) (L : List Blk) (hL : L.length ≤ 16) (hk : 60 ≤ k) : dancestudioref42_Same.f k W D L W D L = some true := by
  obtain ⟨k, rfl⟩ : ∃ m, k = m + 1 := ⟨k - 1, by omega⟩
  unfold dancestudioref42_Same.f
  rw [if_pos rfl, if_pos rfl]
  simp only [dancestudioref42_Same.j0]
  rw [if_neg (by simp)]
  exact same_l0 L (by omega) W D W D L 0 k (by simp) (by omega)
theorem mirS_len (W D : Int) (L : List Blk) : (mirS W D L).2.2.1.length ≤ 16 := by
  unfold mirS
  split
  · rename_i h
    have := (chk_ok h).2.1
    simp only [List.length_map]
    exact this
  · simp
theorem inB_mir (W D x y r : Int) : inB W D (-x) y r = inB W D x y r := by
  rw [Bool.eq_iff_iff, inB_iff, inB_iff]
  omega
theorem mOk_mir (a b c d r : Int) : mOk (-a) b (-c) d r = mOk a b c d r := by
  rw [Bool.eq_iff_iff, mOk_iff, mOk_iff]
  omega
theorem tch_mir (a0 a1 a2 a3 a4 b0 b1 b2 b3 b4 : Int) : tch (-a0) a1 (-a2) a3 a4 (-b0) b1 (-b2) b3 b4 = tch a0 a1 a2 a3 a4 b0 b1 b2 b3 b4 := by
  unfold tch
  rw [mOk_mir, mOk_mir, show -a0 - -b0 = -(a0 - b0) by omega, show -a2 - -a0 - (-b2 - -b0) = -(a2 - a0 - (b2 - b0)) by omega]
  simp only [nr_mirror]
theorem hit_mir (m0 m1 m2 m3 m4 : Int) : ∀ (L : List Blk) (i : Int), hit (-m0) m1 (-m2) m3 m4 (L.map mir) i = hit m0 m1 m2 m3 m4 L i := by
  intro L
  induction L with
  | nil => intro i; rfl
  | cons b r ih =>
    intro i
    simp only [List.map_cons, hit]
    rw [ih]
    unfold mir
    simp only
    rw [tch_mir]
theorem clr_mir (W D : Int) (L : List Blk) (m0 m1 m2 m3 m4 : Int) : clr W D (L.map mir) (-m0) m1 (-m2) m3 m4 = clr W D L m0 m1 m2 m3 m4 := by
  unfold clr
  rw [chk_mir, mOk_mir, inB_mir, inB_mir, hit_mir]
end Go.Proofs.Ytmfcgmdecindnaa.SImpl
