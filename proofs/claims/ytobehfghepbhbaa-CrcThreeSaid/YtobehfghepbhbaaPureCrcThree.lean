/- The statement CrcThree over numbers and lists. -/
import Derived.Test.YtobehfghepbhbaaX16
import Derived.Test.YtobehfghepbhbaaCrcWf
namespace Go.Proofs.Ytobehfghepbhbaa.Pure
open Go.RowKit Go.Proofs.YtobehfghepbhbaaW.PrintWords Go.Proofs.Ytobehfghepbhbaa.X Go.Proofs.Ytobehfghepbhbaa.WImpl Go.Proofs.Ytobehfghepbhbaa.Crc Go.Proofs.Ytobehfghepbhbaa.CrcImpl
theorem xor8 {a b c : Int} (ha : 0 ≤ a ∧ a ≤ 255) (hb : 0 ≤ b ∧ b ≤ 255) (hc : 0 ≤ c ∧ c ≤ 255) : Go.bits .xor .u8 (Go.bits .xor .u8 a b) c = ((((a.toNat ^^^ b.toNat) ^^^ c.toNat : Nat)) : Int) ∧ ((a.toNat ^^^ b.toNat) ^^^ c.toNat) ≤ 255 := by
  have h1 : a.toNat ^^^ b.toNat < 256 := Nat.xor_lt_two_pow (n := 8) (by omega) (by omega)
  have h2 : (a.toNat ^^^ b.toNat) ^^^ c.toNat < 256 := Nat.xor_lt_two_pow (n := 8) h1 (by omega)
  refine ⟨?_, by omega⟩
  rw [u8_xor a b ha.1 (by omega) hb.1 (by omega), u8_xor _ c (by omega) (by omega) hc.1 (by omega), Int.toNat_natCast]
theorem x3_BY : ∀ (l m n : List Int), BY l → BY m → BY n → BY (x3 l m n) := by
  intro l
  induction l with
  | nil => intro m n _ _ _ y hy; cases m <;> cases n <;> simp [x3] at hy
  | cons a l ih =>
    intro m n hl hm hn y hy
    cases m with
    | nil => simp [x3] at hy
    | cons b m => cases n with
      | nil => simp [x3] at hy
      | cons c n =>
        simp only [x3, List.mem_cons] at hy
        rcases hy with rfl | h
        · have := (xor8 (hl a (by simp)) (hm b (by simp)) (hn c (by simp))).2
          omega
        · exact ih m n (fun z hz => hl z (by simp [hz])) (fun z hz => hm z (by simp [hz])) (fun z hz => hn z (by simp [hz])) y h
theorem x3_len : ∀ (l m n : List Int), l.length = m.length → m.length = n.length → (x3 l m n).length = l.length := by
  intro l
  induction l with
  | nil => intro m n _ _; cases m <;> cases n <;> simp [x3]
  | cons a l ih =>
    intro m n h1 h2
    cases m with
    | nil => simp at h1
    | cons b m => cases n with
      | nil => simp at h2
      | cons c n => simp only [x3, List.length_cons]; rw [ih m n (Nat.succ.inj h1) (Nat.succ.inj h2)]
theorem x3_take (l m n : List Int) : ∀ (i : Nat), i < l.length → i < m.length → i < n.length → x3 (l.take (i + 1)) (m.take (i + 1)) (n.take (i + 1)) = x3 (l.take i) (m.take i) (n.take i) ++ [((((rd l i).toNat ^^^ (rd m i).toNat) ^^^ (rd n i).toNat : Nat) : Int)] := by
  induction l generalizing m n with
  | nil => intro i h; simp at h
  | cons a l ih =>
    intro i h1 h2 h3
    cases m with
    | nil => simp at h2
    | cons b m => cases n with
      | nil => simp at h3
      | cons c n =>
        cases i with
        | zero => simp [x3, rd]
        | succ i =>
          have := ih m n i (by simpa using h1) (by simpa using h2) (by simpa using h3)
          simp only [List.take_succ_cons, x3, List.cons_append]
          rw [this]
          simp [rd]
theorem three_l0 (l m n : List Int) (hl : BY l) (hm : BY m) (hn : BY n) (N : Nat) (h1 : N ≤ l.length) (h2 : N ≤ m.length) (h3 : N ≤ n.length) (hN : N ≤ 4096) : ∀ (d i k : Nat), i + d = N → 60000 + d ≤ k →
    dancestudiolaw08_CrcThree.l0 k l m n (N : Int) (x3 (l.take i) (m.take i) (n.take i)) (i : Int) = some true := by
  intro d
  induction d with
  | zero =>
    intro i k h hk
    obtain rfl : i = N := by omega
    obtain ⟨k, rfl⟩ : ∃ q, k = q + 1 := ⟨k - 1, by omega⟩
    have hL : BY (l.take i) := fun y hy => hl y (List.mem_of_mem_take hy)
    have hM : BY (m.take i) := fun y hy => hm y (List.mem_of_mem_take hy)
    have hR : BY (n.take i) := fun y hy => hn y (List.mem_of_mem_take hy)
    have e1 : (l.take i).length = i := by simp; omega
    have e2 : (m.take i).length = i := by simp; omega
    have e3 : (n.take i).length = i := by simp; omega
    have ex := x3_len (l.take i) (m.take i) (n.take i) (by omega) (by omega)
    rw [dancestudiolaw08_CrcThree.l0, if_neg (by omega), sum_f k _ (x3_BY _ _ _ hL hM hR) (by omega) (by omega), Option.bind_some, if_pos (by omega), if_pos (by omega), Int.toNat_natCast, sum_f k _ hL (by omega) (by omega), Option.bind_some, if_pos (by omega), sum_f k _ hM (by omega) (by omega), Option.bind_some, if_pos (by omega), sum_f k _ hR (by omega) (by omega), Option.bind_some]
    rw [u32_xor_nat _ _ (ext_lt (by omega) hL) (ext_lt (by omega) hM), u32_xor_nat _ _ (xor_lt (ext_lt (by omega) hL) (ext_lt (by omega) hM)) (ext_lt (by omega) hR), ext_x3 _ _ _ (by omega) (by omega), if_pos rfl, awake_f k (by omega), Option.bind_some]
  | succ d ih =>
    intro i k h hk
    obtain ⟨k, rfl⟩ : ∃ q, k = q + 1 := ⟨k - 1, by omega⟩
    have g : ∀ (z : List Int), BY z → i < z.length → 0 ≤ rd z i ∧ rd z i ≤ 255 := by
      intro z hz hi
      unfold rd
      rw [Int.toNat_natCast, List.getD_eq_getElem?_getD, List.getElem?_eq_getElem hi]
      exact hz _ (List.getElem_mem hi)
    have e1 : (l.take i).length = i := by simp; omega
    have e2 : (m.take i).length = i := by simp; omega
    have e3 : (n.take i).length = i := by simp; omega
    have ex := x3_len (l.take i) (m.take i) (n.take i) (by omega) (by omega)
    rw [dancestudiolaw08_CrcThree.l0, if_pos (by omega), if_pos (by omega), if_pos (by omega), if_pos (by omega), if_pos (by omega), if_pos (by omega), (xor8 (g l hl (by omega)) (g m hm (by omega)) (g n hn (by omega))).1, ← x3_take l m n i (by omega) (by omega) (by omega), w64 (by omega) (by omega), show (i : Int) + 1 = ((i + 1 : Nat) : Int) by omega]
    exact ih (i + 1) k (by omega) (by omega)
theorem CrcThree (x0 : List Int) (x1 : List Int) (x2 : List Int) (g0 : (x0.length ≤ maxLen ∧ ∀ y ∈ x0, (Lit.int .u8 y).wf = true)) (g1 : (x1.length ≤ maxLen ∧ ∀ y ∈ x1, (Lit.int .u8 y).wf = true)) (g2 : (x2.length ≤ maxLen ∧ ∀ y ∈ x2, (Lit.int .u8 y).wf = true)) : ∃ k, X.dancestudiolaw08_CrcThree.f k x0 x1 x2 = some true := by
  refine ⟨100000, ?_⟩
  generalize hk : 100000 = k
  unfold dancestudiolaw08_CrcThree.f
  split
  · rw [awake_f k (by omega), Option.bind_some]
  · rename_i h
    obtain ⟨N, hN⟩ : ∃ N : Nat, mn (mn (x0.length : Int) (x1.length : Int)) (x2.length : Int) = (N : Int) := ⟨(mn (mn (x0.length : Int) (x1.length : Int)) (x2.length : Int)).toNat, by unfold mn; split <;> split <;> omega⟩
    have hm : N ≤ x0.length ∧ N ≤ x1.length ∧ N ≤ x2.length := by
      unfold mn at hN
      split at hN <;> split at hN <;> omega
    rw [hN] at h ⊢
    exact three_l0 x0 x1 x2 (bys g0) (bys g1) (bys g2) N hm.1 hm.2.1 hm.2.2 (by omega) N 0 k (by omega) (by omega)
end Go.Proofs.Ytobehfghepbhbaa.Pure
