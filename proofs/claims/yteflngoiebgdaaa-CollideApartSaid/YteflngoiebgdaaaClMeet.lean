/- Collide: contacts and meetings, as printed. -/
import Derived.Test.YteflngoiebgdaaaX25
import Derived.Test.YteflngoiebgdaaaX24
import Derived.Test.YteflngoiebgdaaaX23
import Derived.Test.YteflngoiebgdaaaX10
import Derived.Test.YteflngoiebgdaaaClChk
import Derived.Test.YteflngoiebgdaaaGeoImpl
namespace Go.Proofs.Yteflngoiebgdaaa.Cl
open Go.RowKit Go.Proofs.YteflngoiebgdaaaW.PrintWords Go.Proofs.Yteflngoiebgdaaa.X Go.Proofs.Yteflngoiebgdaaa.Fl Go.Proofs.Yteflngoiebgdaaa.GeoImpl Go.Proofs.Yteflngoiebgdaaa.Geo
set_option linter.unusedVariables false
set_option linter.unusedSimpArgs false
theorem w64 {x : Int} (h0 : -9223372036854775808 ≤ x) (h1 : x ≤ 9223372036854775807) : wrap64 x = x := by unfold wrap64; omega
def hasB (a b t : Int) : Bool := decide (a ≤ t) && decide (t < b)
theorem has_f (a b t : Int) : collide_has.f a b t = some (hasB a b t) := by
  unfold collide_has.f hasB
  by_cases h : a ≤ t
  · rw [if_pos h, decide_eq_true h]; rfl
  · rw [if_neg h, decide_eq_false h]; rfl
def pairB (x : Ct) (a b : Int) : Bool := decide (x.f0 = a) && decide (x.f2 = b) || decide (x.f0 = b) && decide (x.f2 = a)
def isC (a b t : Int) (x : Ct) : Bool := pairB x a b && (hasB x.f4.f0 x.f4.f1 t || hasB x.f4.f0 x.f4.f1 (t + 1))
theorem or_if (p q : Bool) (o : Option Bool) : (if p = true then some true else (if q = true then some true else o)) = if (p || q) = true then some true else o := by cases p <;> cases q <;> rfl
theorem contact_l0 (c : List Ct) (a b t : Int) (hc : c.length ≤ 1000) (ht : 0 ≤ t ∧ t ≤ 10000) : ∀ (s : List Ct) (i k : Nat), c.drop i = s → s.length < k → collide_contact.l0 k a b t c (c.length : Int) (i : Int) = some (s.any (isC a b t)) := by
  intro s
  induction s with
  | nil =>
    intro i k hd hk
    obtain ⟨k, rfl⟩ : ∃ m, k = m + 1 := ⟨k - 1, by omega⟩
    have hi : c.length ≤ i := List.drop_eq_nil_iff.1 hd
    rw [collide_contact.l0, if_neg (by omega)]
    rfl
  | cons x s ih =>
    intro i k hd hk
    simp only [List.length_cons] at hk
    obtain ⟨k, rfl⟩ : ∃ m, k = m + 1 := ⟨k - 1, by omega⟩
    obtain ⟨hx, hi, hn⟩ := rdC hd
    rw [collide_contact.l0, if_pos (by omega), if_pos (by omega), if_pos (by omega), hx, w64 (x := (i : Int) + 1) (by omega) (by omega), show (i : Int) + 1 = ((i + 1 : Nat) : Int) by omega, ih (i + 1) k hn (by omega), w64 (x := t + 1) (by omega) (by omega), has_f, has_f, Option.bind_some, Option.bind_some, or_if, List.any_cons]
    unfold isC pairB
    by_cases h1 : x.f0 = a
    · rw [if_pos h1, decide_eq_true h1]
      by_cases h2 : x.f2 = b
      · rw [if_pos h2, decide_eq_true h2]
        cases hasB x.f4.f0 x.f4.f1 t || hasB x.f4.f0 x.f4.f1 (t + 1) <;> rfl
      · rw [if_neg h2, decide_eq_false h2]
        by_cases h3 : x.f0 = b
        · rw [if_pos h3, decide_eq_true h3]
          by_cases h4 : x.f2 = a
          · rw [if_pos h4, decide_eq_true h4]
            cases hasB x.f4.f0 x.f4.f1 t || hasB x.f4.f0 x.f4.f1 (t + 1) <;> rfl
          · rw [if_neg h4, decide_eq_false h4]
            rfl
        · rw [if_neg h3, decide_eq_false h3]
          rfl
    · rw [if_neg h1, decide_eq_false h1]
      by_cases h3 : x.f0 = b
      · rw [if_pos h3, decide_eq_true h3]
        by_cases h4 : x.f2 = a
        · rw [if_pos h4, decide_eq_true h4]
          cases hasB x.f4.f0 x.f4.f1 t || hasB x.f4.f0 x.f4.f1 (t + 1) <;> rfl
        · rw [if_neg h4, decide_eq_false h4]
          rfl
      · rw [if_neg h3, decide_eq_false h3]
        rfl
theorem contact_f (k : Nat) (c : List Ct) (a b t : Int) (hc : c.length ≤ 20) (ht : 0 ≤ t ∧ t ≤ 10000) (hk : 30 ≤ k) : collide_contact.f k c a b t = some (c.any (isC a b t)) := by
  unfold collide_contact.f
  exact contact_l0 c a b t (by omega) ht c 0 k (by simp) (by omega)
/-! ### meetings -/
abbrev at_ (l : List Mv) (a t : Int) : S49 := (rd_T54 (rd_T43 l a).f0 t).f0
/-- Do two dancers meet in a tick: with given radii. -/
def mtR (l : List Mv) (x y : Int) (a b t : Int) : Bool × Int :=
  tch (at_ l a t).f0 (at_ l a t).f1 (at_ l a (t + 1)).f0 (at_ l a (t + 1)).f1 x (at_ l b t).f0 (at_ l b t).f1 (at_ l b (t + 1)).f0 (at_ l b (t + 1)).f1 y
def hv (h : Bool) (x : Int) : Int := if h = true then x / 2 else x
def mt (l : List Mv) (r : List Int) (c : List Ct) (t : Nat) (p : Nat × Nat) : Bool :=
  (mtR l (hv (c.any (isC (p.1 : Int) (p.2 : Int) (t : Int))) (rd r (p.1 : Int))) (hv (c.any (isC (p.1 : Int) (p.2 : Int) (t : Int))) (rd r (p.2 : Int))) (p.1 : Int) (p.2 : Int) (t : Int)).1
theorem half64 (x : Int) (h0 : 0 ≤ x) (h1 : x ≤ 32768) : wrap64 (Int.tdiv x 2) = x / 2 := by
  rw [Int.tdiv_eq_ediv_of_nonneg h0, w64 (by omega) (by omega)]
theorem meet_f (k : Nat) (l : List Mv) (r : List Int) (c : List Ct) (hg : Good l r c) (a b t : Nat) (ha : a < l.length) (hb : b < l.length) (ht : t < tks l) (hk : 60 ≤ k) : collide_meet.f k l r c (a : Int) (b : Int) (t : Int) = some (mt l r c t (a, b)) := by
  obtain ⟨ma, _, _, a0, a1⟩ := hg.mov a ha
  obtain ⟨mb, _, _, b0, b1⟩ := hg.mov b hb
  have hr := hg.rad
  have hf := hg.few
  unfold collide_meet.f mt
  rw [w64 (x := (t : Int) + 1) (by omega) (by omega), if_pos (by omega), if_pos (by omega), if_pos (by omega), if_pos (by omega), if_pos (by omega), if_pos (by omega), if_pos (by omega), if_pos (by omega), if_pos (by omega), if_pos (by omega), if_pos (by omega), if_pos (by omega), contact_f k c _ _ _ hg.con (by omega) (by omega), Option.bind_some, half64 _ a0 a1, half64 _ b0 b1, touch_f k _ _ _ _ _ _ _ _ _ _ (by omega), touch_f k _ _ _ _ _ _ _ _ _ _ (by omega), Option.bind_some, Option.bind_some]
  dsimp only
  cases c.any (isC (a : Int) (b : Int) (t : Int)) <;> rfl
theorem length_f (l : List Mv) : collide_length.f l = some (tks l : Int) := by
  unfold collide_length.f
  by_cases h : (l.length : Int) = 0
  · rw [if_pos h]
    have : l = [] := List.eq_nil_of_length_eq_zero (by omega)
    subst this
    rfl
  · rw [if_neg h, if_pos (by omega)]
    rfl
end Go.Proofs.Yteflngoiebgdaaa.Cl
