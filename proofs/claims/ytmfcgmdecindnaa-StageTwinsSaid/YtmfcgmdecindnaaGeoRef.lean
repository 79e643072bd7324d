/- The references 01 and 03, as printed, compute the plain geometry. -/
import Derived.Test.YtmfcgmdecindnaaX36
import Derived.Test.YtmfcgmdecindnaaX35
import Derived.Test.YtmfcgmdecindnaaX34
import Derived.Test.YtmfcgmdecindnaaX33
import Derived.Test.YtmfcgmdecindnaaX32
import Derived.Test.YtmfcgmdecindnaaX31
import Derived.Test.YtmfcgmdecindnaaX30
import Derived.Test.YtmfcgmdecindnaaX29
import Derived.Test.YtmfcgmdecindnaaX25
import Derived.Test.YtmfcgmdecindnaaX24
import Derived.Test.YtmfcgmdecindnaaGeoImpl
import Derived.Test.YtmfcgmdecindnaaX37
namespace Go.Proofs.Ytmfcgmdecindnaa.GeoImpl
open Go.RowKit Go.Proofs.YtmfcgmdecindnaaW.PrintWords Go.Proofs.Ytmfcgmdecindnaa.X Go.Proofs.Ytmfcgmdecindnaa.Geo
set_option linter.unusedVariables false
set_option linter.unusedSimpArgs false
theorem Valid_f (x y : Int) : dancestudioref03_Valid.f x y = some (pOk x y) := by
  unfold dancestudioref03_Valid.f
  by_cases h : pOk x y = true
  · have h' := (pOk_iff x y).1 h
    rw [h, if_pos (by omega), if_pos (by omega), if_pos (by omega), decide_eq_true (by omega)]
  · have h' : ¬ (-32768 ≤ x ∧ x ≤ 32768 ∧ -32768 ≤ y ∧ y ≤ 32768) := fun hh => h ((pOk_iff x y).2 hh)
    rw [show pOk x y = false by simpa using h]
    split
    · split
      · split
        · rw [decide_eq_false (by omega)]
        · rfl
      · rfl
    · rfl
theorem Radius_f (r : Int) : dancestudioref03_Radius.f r = some (rOk r) := by
  unfold dancestudioref03_Radius.f
  by_cases h : rOk r = true
  · have h' := (rOk_iff r).1 h
    rw [h, if_pos (by omega), decide_eq_true (by omega)]
  · have h' : ¬ (0 ≤ r ∧ r ≤ 32768) := fun hh => h ((rOk_iff r).2 hh)
    rw [show rOk r = false by simpa using h]
    split
    · rw [decide_eq_false (by omega)]
    · rfl
theorem motion_f (a b c d r : Int) : dancestudioref03_motion.f a b c d r = some (mOk a b c d r) := by
  unfold dancestudioref03_motion.f mOk
  rw [Valid_f, Option.bind_some]
  cases pOk a b
  · rw [if_neg (by simp)]; rfl
  · rw [if_pos rfl, Valid_f, Option.bind_some]
    cases pOk c d
    · rw [if_neg (by simp)]; rfl
    · rw [if_pos rfl, Radius_f, Option.bind_some]; rfl
theorem square_f (a b c d : Int) (ha : -32768 ≤ a ∧ a ≤ 32768) (hb : -32768 ≤ b ∧ b ≤ 32768) (hc : -32768 ≤ c ∧ c ≤ 32768) (hd : -32768 ≤ d ∧ d ≤ 32768) : dancestudioref03_square.f a b c d = some ((a - c) * (a - c) + (b - d) * (b - d)) ∧ (a - c) * (a - c) + (b - d) * (b - d) ≤ 8589934592 := by
  have h1 := mul_bd (a - c) (a - c) 65536 65536 (by omega) (by omega)
  have h2 := mul_bd (b - d) (b - d) 65536 65536 (by omega) (by omega)
  unfold dancestudioref03_square.f
  rw [w64 (x := a - c) (by omega) (by omega), w64 (x := b - d) (by omega) (by omega), w64 (x := (a - c) * (a - c)) (by omega) (by omega), w64 (x := (b - d) * (b - d)) (by omega) (by omega), w64 (by omega) (by omega)]
  exact ⟨rfl, by omega⟩
theorem Small_f (a : Int) (h : sm a) : dancestudioref01_Small.f a = some true := by
  unfold dancestudioref01_Small.f sm at *
  rw [if_pos (by omega), decide_eq_true (by omega)]
theorem rorder_f (a b : Int) : dancestudioref01_order.f a b = some (cmp a b) := by
  unfold dancestudioref01_order.f cmp
  split
  · rfl
  · split <;> rfl
theorem cmp0 (a : Int) : cmp a 0 = sg a := by
  unfold cmp sg
  split
  · rfl
  · split
    · rw [if_neg (by omega)]
    · rw [if_pos (by omega)]
theorem sg_prod (a b : Int) : sg a * sg b = sg (a * b) := by
  rcases Int.lt_trichotomy a 0 with ha | ha | ha
  · rcases Int.lt_trichotomy b 0 with hb | hb | hb
    · have := Int.mul_pos_of_neg_of_neg ha hb
      unfold sg; rw [if_pos ha, if_pos hb, if_neg (by omega), if_neg (by omega)]; rfl
    · subst hb; rw [Int.mul_zero]; unfold sg; simp
    · have := Int.mul_neg_of_neg_of_pos ha hb
      unfold sg; rw [if_pos ha, if_neg (by omega), if_neg (by omega), if_pos this]; rfl
  · subst ha; rw [Int.zero_mul]; unfold sg; simp
  · rcases Int.lt_trichotomy b 0 with hb | hb | hb
    · have := Int.mul_neg_of_pos_of_neg ha hb
      unfold sg; rw [if_neg (by omega), if_neg (by omega), if_pos hb, if_pos this]; rfl
    · subst hb; rw [Int.mul_zero]; unfold sg; simp
    · have := Int.mul_pos ha hb
      unfold sg; rw [if_neg (by omega), if_neg (by omega), if_neg (by omega), if_neg (by omega), if_neg (by omega), if_neg (by omega)]; rfl
theorem sign_f (a b : Int) : dancestudioref01_sign.f a b = some (sg (a * b)) := by
  unfold dancestudioref01_sign.f
  have h1 := sg_range a
  have h2 := sg_range b
  have h3 := sg_range (a * b)
  rw [rorder_f, rorder_f, Option.bind_some, Option.bind_some, cmp0, cmp0, sg_prod, w64 (by omega) (by omega)]
theorem rsize_f (a : Int) (h : sm a) : dancestudioref01_size.f a = some (ab a) := by
  unfold dancestudioref01_size.f ab sm at *
  split
  · rw [w64 (by omega) (by omega)]
  · rfl
theorem parts26 (x y : Int) (hx0 : 0 ≤ x) (hy0 : 0 ≤ y) : x * y = (x / 67108864 * (y / 67108864)) * 4503599627370496 + (x / 67108864 * (y % 67108864) + x % 67108864 * (y / 67108864)) * 67108864 + x % 67108864 * (y % 67108864) := by
  have e1 : x = x / 67108864 * 67108864 + x % 67108864 := by omega
  have e2 : y = y / 67108864 * 67108864 + y % 67108864 := by omega
  generalize x / 67108864 = a at *
  generalize x % 67108864 = b at *
  generalize y / 67108864 = c at *
  generalize y % 67108864 = d at *
  subst e1
  subst e2
  grind
/-- A product in three parts. -/
def w1 (p : Int) : Int := ab p / 4503599627370496
def w2 (p : Int) : Int := ab p / 67108864 % 67108864
def w3 (p : Int) : Int := ab p % 67108864
theorem wide_f (a b : Int) (ha : sm a) (hb : sm b) : dancestudioref01_wide.f (ab a) (ab b) = some (w1 (a * b), w2 (a * b), w3 (a * b)) := by
  have hx0 : 0 ≤ ab a := by unfold ab; split <;> omega
  have hy0 : 0 ≤ ab b := by unfold ab; split <;> omega
  have hx1 : ab a ≤ 1125899906842624 := by unfold ab; unfold sm at ha; split <;> omega
  have hy1 : ab b ≤ 1125899906842624 := by unfold ab; unfold sm at hb; split <;> omega
  have hp := parts26 (ab a) (ab b) hx0 hy0
  have hP : ab (a * b) = ab a * ab b := ab_mul a b
  have A1 := mul_bd (ab a / 67108864) (ab b / 67108864) 16777216 16777216 (by omega) (by omega)
  have B1 := mul_bd (ab a / 67108864) (ab b % 67108864) 16777216 67108864 (by omega) (by omega)
  have C1 := mul_bd (ab a % 67108864) (ab b / 67108864) 67108864 16777216 (by omega) (by omega)
  have D1 := mul_bd (ab a % 67108864) (ab b % 67108864) 67108863 67108863 (by omega) (by omega)
  have A0 := Int.mul_nonneg (a := ab a / 67108864) (b := ab b / 67108864) (by omega) (by omega)
  have B0 := Int.mul_nonneg (a := ab a / 67108864) (b := ab b % 67108864) (by omega) (by omega)
  have C0 := Int.mul_nonneg (a := ab a % 67108864) (b := ab b / 67108864) (by omega) (by omega)
  have D0 := Int.mul_nonneg (a := ab a % 67108864) (b := ab b % 67108864) (by omega) (by omega)
  unfold dancestudioref01_wide.f
  rw [Int.tdiv_eq_ediv_of_nonneg hx0, Int.tdiv_eq_ediv_of_nonneg hy0, Int.tmod_eq_emod_of_nonneg hx0, Int.tmod_eq_emod_of_nonneg hy0]
  rw [w64 (x := ab a / 67108864) (by omega) (by omega), w64 (x := ab b / 67108864) (by omega) (by omega)]
  generalize ab a / 67108864 * (ab b / 67108864) = A at *
  generalize ab a / 67108864 * (ab b % 67108864) = B at *
  generalize ab a % 67108864 * (ab b / 67108864) = C at *
  generalize ab a % 67108864 * (ab b % 67108864) = D at *
  rw [w64 (x := A) (by omega) (by omega), w64 (x := B) (by omega) (by omega), w64 (x := C) (by omega) (by omega), w64 (x := D) (by omega) (by omega), w64 (x := B + C) (by omega) (by omega)]
  rw [Int.tdiv_eq_ediv_of_nonneg (a := D) D0, Int.tmod_eq_emod_of_nonneg (a := D) D0, w64 (x := D / 67108864) (by omega) (by omega), w64 (x := B + C + D / 67108864) (by omega) (by omega)]
  rw [Int.tdiv_eq_ediv_of_nonneg (a := B + C + D / 67108864) (by omega), Int.tmod_eq_emod_of_nonneg (a := B + C + D / 67108864) (by omega), w64 (x := (B + C + D / 67108864) / 67108864) (by omega) (by omega), w64 (by omega) (by omega)]
  have e1 : A + (B + C + D / 67108864) / 67108864 = w1 (a * b) := by unfold w1; omega
  have e2 : (B + C + D / 67108864) % 67108864 = w2 (a * b) := by unfold w2; omega
  have e3 : D % 67108864 = w3 (a * b) := by unfold w3; omega
  rw [e1, e2, e3]
theorem cmp_w (p q s : Int) (h : sg p = sg q) (x y : Int) (hx : sg p * cmp x y = cmp p q) : some (wrap64 (sg p * cmp x y), (0 : Int)) = some (cmp p q, 0) := by
  have := cmp_range p q
  rw [hx, w64 (by omega) (by omega)]
theorem sg_cases (p : Int) : sg p = -1 ∨ sg p = 0 ∨ sg p = 1 := by
  unfold sg
  split
  · simp
  · split <;> simp
theorem cmp_w1 (p q : Int) (h : sg p = sg q) (h2 : w1 p ≠ w1 q) : sg p * cmp (w1 p) (w1 q) = cmp p q := by
  rcases sg_cases p with e | e | e <;> rw [e] at h ⊢ <;> unfold sg at e h <;> unfold cmp w1 ab at * <;> (repeat' split at e) <;> (repeat' split at h) <;> first | omega | (repeat' split <;> omega)
theorem cmp_w2 (p q : Int) (h : sg p = sg q) (h1 : w1 p = w1 q) (h2 : w2 p ≠ w2 q) : sg p * cmp (w2 p) (w2 q) = cmp p q := by
  rcases sg_cases p with e | e | e <;> rw [e] at h ⊢ <;> unfold sg at e h <;> unfold cmp w1 w2 ab at * <;> (repeat' split at e) <;> (repeat' split at h) <;> first | omega | (repeat' split <;> omega)
theorem cmp_w3 (p q : Int) (h : sg p = sg q) (h1 : w1 p = w1 q) (h2 : w2 p = w2 q) : sg p * cmp (w3 p) (w3 q) = cmp p q := by
  rcases sg_cases p with e | e | e <;> rw [e] at h ⊢ <;> unfold sg at e h <;> unfold cmp w1 w2 w3 ab at * <;> (repeat' split at e) <;> (repeat' split at h) <;> first | omega | (repeat' split <;> omega)
theorem rcompare_f (k : Nat) (a b c d : Int) (ha : sm a) (hb : sm b) (hc : sm c) (hd : sm d) (hk : 3 ≤ k) : dancestudioref01_Compare.f k a b c d = some (cmp (a * b) (c * d), 0) := by
  obtain ⟨k, rfl⟩ : ∃ m, k = m + 1 := ⟨k - 1, by omega⟩
  unfold dancestudioref01_Compare.f
  rw [Small_f a ha, Small_f b hb, Small_f c hc, Small_f d hd, Option.bind_some, if_pos rfl, Option.bind_some, if_pos rfl, Option.bind_some, if_pos rfl, Option.bind_some]
  simp only [dancestudioref01_Compare.j0]
  rw [if_neg (by simp), sign_f, sign_f, Option.bind_some, Option.bind_some]
  by_cases h1 : sg (a * b) = sg (c * d)
  · rw [if_pos h1, rsize_f a ha, rsize_f b hb, rsize_f c hc, rsize_f d hd, Option.bind_some, Option.bind_some, wide_f a b ha hb, Option.bind_some, Option.bind_some, Option.bind_some, wide_f c d hc hd, Option.bind_some]
    by_cases h2 : w1 (a * b) = w1 (c * d)
    · rw [if_pos h2]
      by_cases h3 : w2 (a * b) = w2 (c * d)
      · rw [if_pos h3, rorder_f, Option.bind_some]
        exact cmp_w _ _ 0 h1 _ _ (cmp_w3 _ _ h1 h2 h3)
      · rw [if_neg h3, rorder_f, Option.bind_some]
        exact cmp_w _ _ 0 h1 _ _ (cmp_w2 _ _ h1 h2 h3)
    · rw [if_neg h2, rorder_f, Option.bind_some]
      exact cmp_w _ _ 0 h1 _ _ (cmp_w1 _ _ h1 h2)
  · rw [if_neg h1, Option.bind_some, rorder_f, Option.bind_some, cmp_sg _ _ h1]
theorem rtouch_f (k : Nat) (a0 a1 a2 a3 a4 b0 b1 b2 b3 b4 : Int) (hk : 20 ≤ k) : dancestudioref03_Touch.f k a0 a1 a2 a3 a4 b0 b1 b2 b3 b4 = some (tch a0 a1 a2 a3 a4 b0 b1 b2 b3 b4) := by
  obtain ⟨k, rfl⟩ : ∃ m, k = m + 2 := ⟨k - 2, by omega⟩
  unfold dancestudioref03_Touch.f tch
  rw [motion_f, motion_f, Option.bind_some, Option.bind_some]
  by_cases h : mOk a0 a1 a2 a3 a4 = true ∧ mOk b0 b1 b2 b3 b4 = true
  · rw [if_pos h, if_pos h.1, h.2]
    obtain ⟨⟨p1, p2, p3, p4⟩, ⟨p5, p6, p7, p8⟩, p9, p10⟩ := (mOk_iff _ _ _ _ _).1 h.1
    obtain ⟨⟨q1, q2, q3, q4⟩, ⟨q5, q6, q7, q8⟩, q9, q10⟩ := (mOk_iff _ _ _ _ _).1 h.2
    have hr := r2_sm a4 b4 ⟨p9, p10⟩ ⟨q9, q10⟩
    obtain ⟨s1, s1'⟩ := square_f a0 a1 b0 b1 (by omega) (by omega) (by omega) (by omega)
    obtain ⟨s2, s2'⟩ := square_f a2 a3 b2 b3 (by omega) (by omega) (by omega) (by omega)
    simp only [dancestudioref03_Touch.j0]
    rw [if_neg (by simp), s1, s2, Option.bind_some, Option.bind_some]
    rw [w64 (x := a0 - b0) (by omega) (by omega), w64 (x := a1 - b1) (by omega) (by omega), w64 (x := a2 - b2) (by omega) (by omega), w64 (x := a3 - b3) (by omega) (by omega), w64 (x := a2 - b2 - (a0 - b0)) (by omega) (by omega), w64 (x := a3 - b3 - (a1 - b1)) (by omega) (by omega), w64 (x := a4 + b4) (by omega) (by omega), w64 (x := (a4 + b4) * (a4 + b4)) (by omega) (by omega)]
    have href := nr_ref (a0 - b0) (a1 - b1) (a2 - a0 - (b2 - b0)) (a3 - a1 - (b3 - b1)) ((a4 + b4) * (a4 + b4))
    have ex : a2 - a0 - (b2 - b0) = a2 - b2 - (a0 - b0) := by omega
    have ey : a3 - a1 - (b3 - b1) = a3 - b3 - (a1 - b1) := by omega
    have eX : a0 - b0 + (a2 - b2 - (a0 - b0)) = a2 - b2 := by omega
    have eY : a1 - b1 + (a3 - b3 - (a1 - b1)) = a3 - b3 := by omega
    rw [ex, ey] at href ⊢
    rw [eX, eY] at href
    by_cases c1 : (a0 - b0) * (a0 - b0) + (a1 - b1) * (a1 - b1) < (a4 + b4) * (a4 + b4)
    · rw [if_pos c1, decide_eq_true (href.2 (.inl c1))]
      simp only [dancestudioref03_Touch.j1, if_true]
    · rw [if_neg c1]
      by_cases c2 : (a2 - b2) * (a2 - b2) + (a3 - b3) * (a3 - b3) < (a4 + b4) * (a4 + b4)
      · rw [decide_eq_true c2, decide_eq_true (href.2 (.inr (.inl c2)))]
        simp only [dancestudioref03_Touch.j1, if_true]
      · rw [decide_eq_false c2]
        simp only [dancestudioref03_Touch.j1]
        rw [if_neg (by simp)]
        have dx1 : -65536 ≤ a0 - b0 ∧ a0 - b0 ≤ 65536 := by omega
        have dy1 : -65536 ≤ a1 - b1 ∧ a1 - b1 ≤ 65536 := by omega
        have vx1 : -131072 ≤ a2 - b2 - (a0 - b0) ∧ a2 - b2 - (a0 - b0) ≤ 131072 := by omega
        have vy1 : -131072 ≤ a3 - b3 - (a1 - b1) ∧ a3 - b3 - (a1 - b1) ≤ 131072 := by omega
        clear ex ey eX eY s1 s2
        generalize a2 - b2 - (a0 - b0) = vx at *
        generalize a3 - b3 - (a1 - b1) = vy at *
        generalize a0 - b0 = dx at *
        generalize a1 - b1 = dy at *
        have m1 := mul_bd dx vx 131072 131072 (by omega) (by omega)
        have m2 := mul_bd dy vy 131072 131072 (by omega) (by omega)
        have m3 := mul_bd vx vx 131072 131072 (by omega) (by omega)
        have m4 := mul_bd vy vy 131072 131072 (by omega) (by omega)
        have m5 := mul_bd dx vy 131072 131072 (by omega) (by omega)
        have m6 := mul_bd dy vx 131072 131072 (by omega) (by omega)
        rw [w64 (x := dx * vx) (by omega) (by omega), w64 (x := dy * vy) (by omega) (by omega), w64 (x := vx * vx) (by omega) (by omega), w64 (x := vy * vy) (by omega) (by omega), w64 (x := dx * vy) (by omega) (by omega), w64 (x := dy * vx) (by omega) (by omega), w64 (x := dx * vx + dy * vy) (by omega) (by omega), w64 (x := -(dx * vx + dy * vy)) (by omega) (by omega), w64 (x := vx * vx + vy * vy) (by omega) (by omega), w64 (x := dx * vy - dy * vx) (by omega) (by omega), w64 (x := (a4 + b4) * (a4 + b4)) (by omega) (by omega)]
        by_cases c3 : -(dx * vx + dy * vy) ≤ 0
        · rw [if_pos c3, decide_eq_false (fun h => by rcases href.1 h with h | h | h; exact c1 h; exact c2 h; exact h.1 c3)]
        · rw [if_neg c3]
          by_cases c4 : -(dx * vx + dy * vy) ≥ vx * vx + vy * vy
          · rw [if_pos c4, decide_eq_false (fun h => by rcases href.1 h with h | h | h; exact c1 h; exact c2 h; exact h.2.1 c4)]
          · rw [if_neg c4, rcompare_f k _ _ _ _ ⟨by omega, by omega⟩ ⟨by omega, by omega⟩ ⟨by omega, by omega⟩ ⟨by omega, by omega⟩ (by omega), Option.bind_some]
            congr 2
            rw [decide_eq_decide, cmp_lt, href]
            constructor
            · intro h; exact .inr (.inr ⟨c3, c4, h⟩)
            · rintro (h | h | h)
              · exact absurd h c1
              · exact absurd h c2
              · exact h.2.2
  · rw [if_neg h]
    by_cases h1 : mOk a0 a1 a2 a3 a4 = true
    · have h2 : mOk b0 b1 b2 b3 b4 = false := by
        rw [Bool.eq_false_iff]
        exact fun hh => h ⟨h1, hh⟩
      rw [if_pos h1, h2]
      simp only [dancestudioref03_Touch.j0]
      rw [if_pos (show (!false) = true from rfl)]
    · rw [if_neg h1]
      simp only [dancestudioref03_Touch.j0]
      rw [if_pos trivial]
end Go.Proofs.Ytmfcgmdecindnaa.GeoImpl
