/- The law StageClear over numbers and lists. -/
import Derived.Test.YtmfcgmdecindnaaSLawsN
import Derived.Test.YtmfcgmdecindnaaX40
namespace Go.Proofs.Ytmfcgmdecindnaa.Pure
open Go.RowKit Go.Proofs.YtmfcgmdecindnaaW.PrintWords Go.Proofs.Ytmfcgmdecindnaa.X Go.Proofs.Ytmfcgmdecindnaa.Geo Go.Proofs.Ytmfcgmdecindnaa.GeoImpl Go.Proofs.Ytmfcgmdecindnaa.SImpl
set_option linter.unusedVariables false
set_option linter.unusedSimpArgs false
theorem byte_of {n : Int} (h : (Lit.int .u8 n).wf = true) : 0 ≤ n ∧ n ≤ 255 := by
  simp only [Lit.wf, IntKind.min, IntKind.max, IntKind.signed, IntKind.bits, Bool.and_eq_true] at h
  simp at h
  omega
theorem sc_bd {a t : Int} (ha : -32768 ≤ a ∧ a ≤ 32768) (ht : 0 ≤ t) : -(32768 * t) ≤ a * t ∧ a * t ≤ 32768 * t := by
  have h1 := Int.mul_le_mul_of_nonneg_right ha.1 ht
  have h2 := Int.mul_le_mul_of_nonneg_right ha.2 ht
  rw [Int.neg_mul] at h1
  exact ⟨h1, h2⟩
/-- A point of a motion that is clear keeps away from a block. -/
theorem apart_one {m0 m1 m2 m3 m4 n t : Int} (hn : 1 ≤ n) (ht : 0 ≤ t) (htn : t ≤ n) {b : Blk} {W D : Int} (hw : wdOk W D) (hm : mOk m0 m1 m2 m3 m4 = true) (hb : blkOk W D b = true) (hc : ¬ (tch m0 m1 m2 m3 m4 b.f0.f0 b.f0.f1 b.f0.f0 b.f0.f1 b.f1).1 = true) :
    (m4 * n + b.f1 * n) * (m4 * n + b.f1 * n) ≤ (m0 * (n - t) + m2 * t - b.f0.f0 * n) * (m0 * (n - t) + m2 * t - b.f0.f0 * n) + (m1 * (n - t) + m3 * t - b.f0.f1 * n) * (m1 * (n - t) + m3 * t - b.f0.f1 * n) := by
  obtain ⟨w1, w2, w3, w4, w5⟩ := hw
  obtain ⟨⟨b1, b2, b3, b4⟩, b5, b6⟩ := (blkOk_iff W D b).1 hb
  have hk : mOk b.f0.f0 b.f0.f1 b.f0.f0 b.f0.f1 b.f1 = true := (mOk_iff _ _ _ _ _).2 ⟨⟨by omega, by omega, by omega, by omega⟩, ⟨by omega, by omega, by omega, by omega⟩, by omega, by omega⟩
  unfold tch at hc
  rw [if_pos ⟨hm, hk⟩] at hc
  have hc2 : ¬ nr (m0 - b.f0.f0) (m1 - b.f0.f1) ((m2 - m0) - (b.f0.f0 - b.f0.f0)) ((m3 - m1) - (b.f0.f1 - b.f0.f1)) ((m4 + b.f1) * (m4 + b.f1)) < 0 := fun h => hc (decide_eq_true h)
  have := nr_apart _ _ _ _ (m4 + b.f1) n t (by omega) ht htn hc2
  rw [show (m4 + b.f1) * n = m4 * n + b.f1 * n by grind, show n * (m0 - b.f0.f0) + t * ((m2 - m0) - (b.f0.f0 - b.f0.f0)) = m0 * (n - t) + m2 * t - b.f0.f0 * n by grind, show n * (m1 - b.f0.f1) + t * ((m3 - m1) - (b.f0.f1 - b.f0.f1)) = m1 * (n - t) + m3 * t - b.f0.f1 * n by grind] at this
  exact this
theorem sq_le' {a B : Int} (h : -B ≤ a ∧ a ≤ B) : 0 ≤ a * a ∧ a * a ≤ B * B := ⟨sq_nonneg a, (mul_bd a a B B h h).2⟩
theorem sc_l0 (W D : Int) (L : List Blk) (hL : L.length ≤ 30) (hw : wdOk W D) (m0 m1 m2 m3 m4 : Int) (hm : mOk m0 m1 m2 m3 m4 = true) (hall : ∀ b ∈ L, blkOk W D b = true) (n t : Int) (hn : 1 ≤ n) (hn2 : n ≤ 100) (ht : 0 ≤ t) (htn : t ≤ n) (H : Int) :
    ∀ (s : List Blk) (i k : Nat), L.drop i = s → 2 * s.length + 230 < k → hit m0 m1 m2 m3 m4 s (i : Int) = H →
    dancestudiolaw42_StageClear.l0 k H n (m0 * (n - t) + m2 * t) (m1 * (n - t) + m3 * t) (m4 * n) (i : Int) W D L = some true := by
  obtain ⟨g1, g2, g3⟩ := (mOk_iff _ _ _ _ _).1 hm
  intro s
  induction s with
  | nil =>
    intro i k hd hk hh
    obtain ⟨k, rfl⟩ : ∃ m, k = m + 2 := ⟨k - 2, by omega⟩
    have : L.length ≤ i := by simpa using hd
    rw [dancestudiolaw42_StageClear.l0, if_neg (by omega), dancestudiolaw42_StageClear.j2, if_neg (by simp), awake_f k (by omega), Option.bind_some]
  | cons b s ih =>
    intro i k hd hk hh
    simp only [List.length_cons] at hk
    obtain ⟨k, rfl⟩ : ∃ m, k = m + 2 := ⟨k - 2, by omega⟩
    obtain ⟨h1, h2, h3⟩ := rdB_of_drop hd
    have hb : blkOk W D b = true := hall b (by
      have : b ∈ L.drop i := by rw [hd]; exact List.mem_cons_self
      exact List.mem_of_mem_drop this)
    by_cases c : (tch m0 m1 m2 m3 m4 b.f0.f0 b.f0.f1 b.f0.f0 b.f0.f1 b.f1).1 = true
    · simp only [hit] at hh
      rw [if_pos c] at hh
      subst hh
      rw [dancestudiolaw42_StageClear.l0, if_pos (by omega), if_neg (by omega), decide_eq_false (by omega), dancestudiolaw42_StageClear.j2, if_neg (by simp), awake_f k (by omega), Option.bind_some]
    · simp only [hit] at hh
      rw [if_neg c, show (i : Int) + 1 = ((i + 1 : Nat) : Int) by omega] at hh
      have hj : (if H < 0 then dancestudiolaw42_StageClear.j2 (k + 1) H n (m0 * (n - t) + m2 * t) (m1 * (n - t) + m3 * t) (m4 * n) (i : Int) true W D L else dancestudiolaw42_StageClear.j2 (k + 1) H n (m0 * (n - t) + m2 * t) (m1 * (n - t) + m3 * t) (m4 * n) (i : Int) (decide ((i : Int) < H)) W D L)
          = dancestudiolaw42_StageClear.j2 (k + 1) H n (m0 * (n - t) + m2 * t) (m1 * (n - t) + m3 * t) (m4 * n) (i : Int) true W D L := by
        by_cases hH : H < 0
        · rw [if_pos hH]
        · rw [if_neg hH]
          have := hit_range m0 m1 m2 m3 m4 s ((i + 1 : Nat) : Int) (by omega)
          rw [decide_eq_true (by omega)]
      rw [dancestudiolaw42_StageClear.l0, if_pos (by omega), hj, dancestudiolaw42_StageClear.j2, if_pos rfl, if_pos (by omega), if_pos (by omega), h1]
      have key := apart_one hn ht htn hw hm hb c
      obtain ⟨w1, w2, w3, w4, w5⟩ := hw
      obtain ⟨⟨b1, b2, b3, b4⟩, b5, b6⟩ := (blkOk_iff W D b).1 hb
      have p0 := sc_bd (a := m0) (t := n - t) ⟨by omega, by omega⟩ (by omega)
      have p1 := sc_bd (a := m1) (t := n - t) ⟨by omega, by omega⟩ (by omega)
      have p2 := sc_bd (a := m2) (t := t) ⟨by omega, by omega⟩ (by omega)
      have p3 := sc_bd (a := m3) (t := t) ⟨by omega, by omega⟩ (by omega)
      have p4 := sc_bd (a := m4) (t := n) ⟨by omega, by omega⟩ (by omega)
      have p5 := sc_bd (a := b.f0.f0) (t := n) ⟨by omega, by omega⟩ (by omega)
      have p6 := sc_bd (a := b.f0.f1) (t := n) ⟨by omega, by omega⟩ (by omega)
      have p7 := sc_bd (a := b.f1) (t := n) ⟨by omega, by omega⟩ (by omega)
      generalize m0 * (n - t) = q0 at *
      generalize m1 * (n - t) = q1 at *
      generalize m2 * t = q2 at *
      generalize m3 * t = q3 at *
      generalize m4 * n = q4 at *
      generalize b.f0.f0 * n = q5 at *
      generalize b.f0.f1 * n = q6 at *
      generalize b.f1 * n = q7 at *
      have s1 := sq_le' (a := q0 + q2 - q5) (B := 9830400) ⟨by omega, by omega⟩
      have s2 := sq_le' (a := q1 + q3 - q6) (B := 9830400) ⟨by omega, by omega⟩
      have s3 := sq_le' (a := q4 + q7) (B := 9830400) ⟨by omega, by omega⟩
      rw [w64 (x := q5) (by omega) (by omega), w64 (x := q6) (by omega) (by omega), w64 (x := q7) (by omega) (by omega), w64 (x := q0 + q2 - q5) (by omega) (by omega), w64 (x := q1 + q3 - q6) (by omega) (by omega), w64 (x := q4 + q7) (by omega) (by omega)]
      generalize (q0 + q2 - q5) * (q0 + q2 - q5) = z1 at *
      generalize (q1 + q3 - q6) * (q1 + q3 - q6) = z2 at *
      generalize (q4 + q7) * (q4 + q7) = z3 at *
      rw [w64 (x := z1) (by omega) (by omega), w64 (x := z2) (by omega) (by omega), w64 (x := z3) (by omega) (by omega), w64 (x := z1 + z2) (by omega) (by omega), if_neg (by omega), w64 (x := (i : Int) + 1) (by omega) (by omega), show (i : Int) + 1 = ((i + 1 : Nat) : Int) by omega]
      exact ih (i + 1) (k) h3 (by omega) hh
theorem StageClear (W D : Int) (L : List Blk) (m0 m1 m2 m3 m4 c0 c1 : Int) (h0 : (Lit.int .u8 c0).wf = true) (h1 : (Lit.int .u8 c1).wf = true) : ∃ k, X.dancestudiolaw42_StageClear.f k W D L m0 m1 m2 m3 m4 c0 c1 = some true := by
  have b0 := byte_of h0
  have b1 := byte_of h1
  refine ⟨400, ?_⟩
  generalize hk : 400 = k
  unfold dancestudiolaw42_StageClear.f
  rw [great_f, Option.bind_some]
  by_cases hg : (L.length : Int) > 30
  · rw [decide_eq_true hg, if_pos rfl, awake_f k (by omega), Option.bind_some]
  · rw [decide_eq_false hg, if_neg (by simp), clear_f k _ _ _ _ _ _ _ _ (by omega), Option.bind_some]
    by_cases h : chk W D L = 0
    · by_cases hm : mOk m0 m1 m2 m3 m4 = true
      · have hv : clr W D L m0 m1 m2 m3 m4 = (inB W D m0 m1 m4 && inB W D m2 m3 m4, hit m0 m1 m2 m3 m4 L 0, 0) := by
          unfold clr
          rw [if_pos h, if_pos hm]
        rw [hv, if_pos rfl]
        obtain ⟨hw, hl, hall⟩ := chk_ok h
        have hall' : ∀ b ∈ L, blkOk W D b = true := fun b hb => (List.all_eq_true.1 hall) b hb
        obtain ⟨g1, g2, g3⟩ := (mOk_iff _ _ _ _ _).1 hm
        obtain ⟨n, hn⟩ : ∃ n, wrap64 (1 + Int.tmod (wrap64 c0) 100) = n := ⟨_, rfl⟩
        have hnv : 1 ≤ n ∧ n ≤ 100 := by
          rw [w64 (x := c0) (by omega) (by omega), Int.tmod_eq_emod_of_nonneg (by omega), w64 (by omega) (by omega)] at hn
          omega
        rw [hn]
        obtain ⟨t, ht⟩ : ∃ t, Int.tmod (wrap64 c1) (wrap64 (n + 1)) = t := ⟨_, rfl⟩
        have htv : 0 ≤ t ∧ t ≤ n := by
          rw [w64 (x := c1) (by omega) (by omega), w64 (x := n + 1) (by omega) (by omega), Int.tmod_eq_emod_of_nonneg (by omega)] at ht
          have e1 := Int.emod_nonneg c1 (show n + 1 ≠ 0 by omega)
          have e2 := Int.emod_lt_of_pos c1 (show 0 < n + 1 by omega)
          omega
        rw [ht, w64 (x := n + 1) (by omega) (by omega), if_neg (by omega), w64 (x := n - t) (by omega) (by omega)]
        have hr := hit_range m0 m1 m2 m3 m4 L 0 (by omega)
        have hloop := sc_l0 W D L (by omega) hw m0 m1 m2 m3 m4 hm hall' n t hnv.1 hnv.2 htv.1 htv.2 (hit m0 m1 m2 m3 m4 L 0) L 0 (k - 1) (by simp) (by omega) rfl
        obtain ⟨w1, w2, w3, w4, w5⟩ := hw
        have p0 := sc_bd (a := m0) (t := n - t) ⟨by omega, by omega⟩ (by omega)
        have p1 := sc_bd (a := m1) (t := n - t) ⟨by omega, by omega⟩ (by omega)
        have p2 := sc_bd (a := m2) (t := t) ⟨by omega, by omega⟩ (by omega)
        have p3 := sc_bd (a := m3) (t := t) ⟨by omega, by omega⟩ (by omega)
        have p4 := sc_bd (a := m4) (t := n) ⟨by omega, by omega⟩ (by omega)
        have p8 := sc_bd (a := W / 2) (t := n) ⟨by omega, by omega⟩ (by omega)
        have p9 := sc_bd (a := D) (t := n) ⟨by omega, by omega⟩ (by omega)
        have eW : W * n = 2 * (W / 2 * n) := by
          have : W = 2 * (W / 2) := by omega
          generalize W / 2 = z at *
          subst this
          grind
        have eN : -W * n = -(W * n) := Int.neg_mul _ _
        obtain ⟨k, rfl⟩ : ∃ m, k = m + 1 := ⟨k - 1, by omega⟩
        have hj0 : ∀ z : Bool, z = false → dancestudiolaw42_StageClear.j0 (k + 1) (hit m0 m1 m2 m3 m4 L 0) n (m0 * (n - t) + m2 * t) (m1 * (n - t) + m3 * t) (m4 * n) z W D L = some true := by
          intro z hz
          subst hz
          rw [dancestudiolaw42_StageClear.j0, if_neg (by simp), if_neg (by omega), if_neg (by omega)]
          exact hloop
        have f1 : wrap64 (wrap64 (m0 * (n - t)) + wrap64 (m2 * t)) = m0 * (n - t) + m2 * t := by
          rw [w64 (x := m0 * (n - t)) (by omega) (by omega), w64 (x := m2 * t) (by omega) (by omega), w64 (by omega) (by omega)]
        have f2 : wrap64 (wrap64 (m1 * (n - t)) + wrap64 (m3 * t)) = m1 * (n - t) + m3 * t := by
          rw [w64 (x := m1 * (n - t)) (by omega) (by omega), w64 (x := m3 * t) (by omega) (by omega), w64 (by omega) (by omega)]
        have f3 : wrap64 (m4 * n) = m4 * n := w64 (by omega) (by omega)
        rw [f1, f2, f3]
        by_cases hi : (inB W D m0 m1 m4 && inB W D m2 m3 m4) = true
        · rw [if_pos hi]
          rw [Bool.and_eq_true, inB_iff, inB_iff] at hi
          obtain ⟨⟨i1, i2, i3, i4⟩, j1, j2, j3, j4⟩ := hi
          have hv0 : 0 ≤ n - t := by omega
          have k1 := Int.mul_le_mul_of_nonneg_right i1 hv0
          have k2 := Int.mul_le_mul_of_nonneg_right i2 hv0
          have k3 := Int.mul_le_mul_of_nonneg_right i3 hv0
          have k4 := Int.mul_le_mul_of_nonneg_right i4 hv0
          have l1 := Int.mul_le_mul_of_nonneg_right j1 htv.1
          have l2 := Int.mul_le_mul_of_nonneg_right j2 htv.1
          have l3 := Int.mul_le_mul_of_nonneg_right j3 htv.1
          have l4 := Int.mul_le_mul_of_nonneg_right j4 htv.1
          have e1 : -(W / 2) * (n - t) + -(W / 2) * t = -(W / 2 * n) := by grind
          have e2 : (m0 - m4) * (n - t) + (m2 - m4) * t = m0 * (n - t) + m2 * t - m4 * n := by grind
          have e3 : (m0 + m4) * (n - t) + (m2 + m4) * t = m0 * (n - t) + m2 * t + m4 * n := by grind
          have e4 : W / 2 * (n - t) + W / 2 * t = W / 2 * n := by grind
          have e5 : (m1 - m4) * (n - t) + (m3 - m4) * t = m1 * (n - t) + m3 * t - m4 * n := by grind
          have e6 : (m1 + m4) * (n - t) + (m3 + m4) * t = m1 * (n - t) + m3 * t + m4 * n := by grind
          have e7 : D * (n - t) + D * t = D * n := by grind
          rw [Int.zero_mul] at k3 l3
          rw [w64 (x := -W) (by omega) (by omega), eN, w64 (x := -(W * n)) (by omega) (by omega), w64 (x := W * n) (by omega) (by omega), w64 (x := D * n) (by omega) (by omega), w64 (x := m0 * (n - t) + m2 * t - m4 * n) (by omega) (by omega), w64 (x := m0 * (n - t) + m2 * t + m4 * n) (by omega) (by omega), w64 (x := m1 * (n - t) + m3 * t + m4 * n) (by omega) (by omega), w64 (x := 2 * (m0 * (n - t) + m2 * t - m4 * n)) (by omega) (by omega), w64 (x := 2 * (m0 * (n - t) + m2 * t + m4 * n)) (by omega) (by omega), if_neg (by omega), if_neg (by omega), if_neg (by omega)]
          exact hj0 _ (decide_eq_false (by omega))
        · rw [if_neg hi]
          exact hj0 _ rfl
      · have hv : clr W D L m0 m1 m2 m3 m4 = (false, 0, 1) := by
          unfold clr
          rw [if_pos h, if_neg hm]
        rw [hv, if_neg (by simp), if_neg (by simp), if_pos rfl, awake_f k (by omega), Option.bind_some]
    · have hv : clr W D L m0 m1 m2 m3 m4 = (false, 0, chk W D L) := by
        unfold clr
        rw [if_neg h]
      rw [hv, if_neg h, if_neg (by simp), if_pos rfl, awake_f k (by omega), Option.bind_some]
end Go.Proofs.Ytmfcgmdecindnaa.Pure
