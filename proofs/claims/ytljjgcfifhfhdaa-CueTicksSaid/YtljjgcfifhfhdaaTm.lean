/- Tempo maps: plain mathematics. -/
import Derived.Test.YtljjgcfifhfhdaaX0
namespace Go.Proofs.Ytljjgcfifhfhdaa.Tm
open Go.RowKit Go.Proofs.YtljjgcfifhfhdaaW.PrintWords Go.Proofs.Ytljjgcfifhfhdaa.X
set_option linter.unusedVariables false

abbrev St := S45
def Ok (x : St) : Prop := 0 ≤ x.f0 ∧ x.f0 ≤ 8192 ∧ 1 ≤ x.f1 ∧ x.f1 ≤ 4194304
instance (x : St) : Decidable (Ok x) := by unfold Ok; infer_instance
def rng : List St → Bool
  | [] => true
  | x :: l => decide (Ok x) && rng l
def asc : Int → List St → Bool
  | _, [] => true
  | p, x :: l => decide (p < x.f0) && asc x.f0 l
/-- Behind the looks at each tempo: the order. -/
def ord : List St → Int
  | [] => 0
  | x :: l => if x.f0 = 0 then (if asc x.f0 l = true then 0 else 5) else 5
def chk (l : List St) : Int := if l.length = 0 then 4 else if 64 < l.length then 3 else if rng l = true then ord l else 1
theorem rng_ok {l : List St} (h : rng l = true) : ∀ x ∈ l, Ok x := by
  induction l with
  | nil => intro x hx; simp at hx
  | cons y l ih =>
    simp only [rng, Bool.and_eq_true, decide_eq_true_eq] at h
    intro x hx
    rcases List.mem_cons.1 hx with rfl | hx
    · exact h.1
    · exact ih h.2 x hx
theorem asc_lt {l : List St} : ∀ {p : Int}, asc p l = true → ∀ x ∈ l, p < x.f0 := by
  induction l with
  | nil => intro p _ x hx; simp at hx
  | cons y l ih =>
    intro p h x hx
    simp only [asc, Bool.and_eq_true, decide_eq_true_eq] at h
    rcases List.mem_cons.1 hx with rfl | hx
    · exact h.1
    · have := ih h.2 x hx; omega
/-- A valid tempo map. -/
structure V (l : List St) : Prop where
  ne : ∃ x l', l = x :: l' ∧ x.f0 = 0 ∧ asc x.f0 l' = true
  le : l.length ≤ 64
  ok : ∀ x ∈ l, Ok x
theorem chk_V {l : List St} (h : chk l = 0) : V l := by
  unfold chk at h
  split at h
  · omega
  · split at h
    · omega
    · split at h
      · rename_i h0 h1 h2
        cases l with
        | nil => simp at h0
        | cons x l' =>
          simp only [ord] at h
          split at h
          · split at h
            · exact ⟨⟨x, l', rfl, by assumption, by assumption⟩, by omega, rng_ok h2⟩
            · omega
          · omega
      · omega
theorem rng_of {l : List St} (h : ∀ x ∈ l, Ok x) : rng l = true := by
  induction l with
  | nil => rfl
  | cons y l ih =>
    simp only [rng, Bool.and_eq_true, decide_eq_true_eq]
    exact ⟨h y (by simp), ih (fun x hx => h x (by simp [hx]))⟩
theorem V.chk {l : List St} (h : V l) : chk l = 0 := by
  obtain ⟨x, l', rfl, h0, h1⟩ := h.ne
  have := h.le
  unfold Tm.chk
  rw [if_neg (by simp), if_neg (by omega), if_pos (rng_of h.ok)]
  simp only [ord]
  rw [if_pos h0, if_pos h1]
/-! ### moments -/
def mom (t : Int) : List St → Int
  | [] => 0
  | [x] => max (t - x.f0) 0 * x.f1
  | x :: y :: l => max (min t y.f0 - x.f0) 0 * x.f1 + mom t (y :: l)
def off (t : Int) : Int → List St → Int
  | d, [] => d
  | d, x :: l => if x.f0 ≤ t then off t x.f1 l else off t d l
theorem prod_bd {a b : Int} (h0 : 0 ≤ a) (h1 : a ≤ 8192) (h2 : 0 ≤ b) (h3 : b ≤ 4194304) : 0 ≤ a * b ∧ a * b ≤ 34359738368 :=
  ⟨Int.mul_nonneg h0 h2, Int.le_trans (Int.mul_le_mul h1 h3 h2 (by omega)) (by decide)⟩
theorem mom_bd {t : Int} (h0 : 0 ≤ t) (h1 : t ≤ 8192) : ∀ (l : List St), (∀ x ∈ l, Ok x) → 0 ≤ mom t l ∧ mom t l ≤ l.length * 34359738368
  | [], _ => by simp [mom]
  | [x], h => by
    have hx := h x (by simp)
    have := prod_bd (a := max (t - x.f0) 0) (b := x.f1) (by omega) (by have := hx.1; omega) (by have := hx.2.2.1; omega) hx.2.2.2
    simp only [mom, List.length_singleton]
    omega
  | x :: y :: l, h => by
    have hx := h x (by simp)
    have hy := h y (by simp)
    have := prod_bd (a := max (min t y.f0 - x.f0) 0) (b := x.f1) (by omega) (by have := hx.1; omega) (by have := hx.2.2.1; omega) hx.2.2.2
    have ih := mom_bd h0 h1 (y :: l) (fun z hz => h z (by simp [hz]))
    have e : mom t (x :: y :: l) = max (min t y.f0 - x.f0) 0 * x.f1 + mom t (y :: l) := rfl
    rw [e]
    simp only [List.length_cons] at ih ⊢
    omega
theorem mom_zero {t : Int} : ∀ (l : List St), (∀ x ∈ l, t ≤ x.f0) → mom t l = 0
  | [], _ => rfl
  | [x], h => by
    have hx := h x (by simp)
    simp only [mom]
    rw [show max (t - x.f0) 0 = 0 by omega, Int.zero_mul]
  | x :: y :: l, h => by
    have hx := h x (by simp)
    have ih := mom_zero (y :: l) (fun z hz => h z (by simp [hz]))
    have e : mom t (x :: y :: l) = max (min t y.f0 - x.f0) 0 * x.f1 + mom t (y :: l) := rfl
    rw [e, ih, show max (min t y.f0 - x.f0) 0 = 0 by omega, Int.zero_mul]
    rfl
theorem off_none {t : Int} : ∀ (l : List St) (d : Int), (∀ x ∈ l, t < x.f0) → off t d l = d
  | [], d, _ => rfl
  | x :: l, d, h => by
    have hx := h x (by simp)
    simp only [off]
    rw [if_neg (by omega), off_none l d (fun z hz => h z (by simp [hz]))]
/-- A tick lasts as long as its tempo says. -/
theorem mom_step {t : Int} : ∀ (l : List St) (x : St), asc x.f0 l = true → x.f0 ≤ t → mom (t + 1) (x :: l) = mom t (x :: l) + off t 0 (x :: l) := by
  intro l
  induction l with
  | nil =>
    intro x _ hx
    simp only [mom, off]
    rw [if_pos hx, show max (t + 1 - x.f0) 0 = (t - x.f0) + 1 by omega, show max (t - x.f0) 0 = t - x.f0 by omega, Int.add_mul, Int.one_mul]
  | cons y l ih =>
    intro x ha hx
    have hl := asc_lt ha
    simp only [asc, Bool.and_eq_true, decide_eq_true_eq] at ha
    have e : ∀ s, mom s (x :: y :: l) = max (min s y.f0 - x.f0) 0 * x.f1 + mom s (y :: l) := fun _ => rfl
    rw [e, e]
    simp only [off]
    rw [if_pos hx]
    by_cases hy : y.f0 ≤ t
    · rw [ih y ha.2 hy, show min (t + 1) y.f0 = y.f0 by omega, show min t y.f0 = y.f0 by omega]
      simp only [off]
      rw [if_pos hy, if_pos hy, Int.add_assoc]
    · have hg : ∀ z ∈ y :: l, y.f0 ≤ z.f0 := by
        intro z hz
        rcases List.mem_cons.1 hz with rfl | hz
        · omega
        · have := asc_lt ha.2 z hz; omega
      rw [mom_zero (y :: l) (fun z hz => by have := hg z hz; omega), mom_zero (y :: l) (fun z hz => by have := hg z hz; omega), if_neg hy, off_none l _ (fun z hz => by have := hg z (by simp [hz]); omega)]
      rw [show max (min (t + 1) y.f0 - x.f0) 0 = (t - x.f0) + 1 by omega, show max (min t y.f0 - x.f0) 0 = t - x.f0 by omega, Int.add_mul, Int.one_mul]
      omega
theorem off_ok {t : Int} : ∀ (l : List St) (d : Int), (∀ x ∈ l, Ok x) → (1 ≤ d ∧ d ≤ 4194304) → 1 ≤ off t d l ∧ off t d l ≤ 4194304
  | [], d, _, hd => hd
  | x :: l, d, h, hd => by
    have hx := h x (by simp)
    simp only [off]
    split
    · exact off_ok l _ (fun z hz => h z (by simp [hz])) ⟨hx.2.2.1, hx.2.2.2⟩
    · exact off_ok l _ (fun z hz => h z (by simp [hz])) hd
theorem V.off {l : List St} (h : V l) {t : Int} (h0 : 0 ≤ t) : 1 ≤ off t 0 l ∧ off t 0 l ≤ 4194304 := by
  obtain ⟨x, l', rfl, hx, ha⟩ := h.ne
  have hk := h.ok x (by simp)
  simp only [Tm.off]
  rw [if_pos (by omega)]
  exact off_ok l' _ (fun z hz => h.ok z (by simp [hz])) ⟨hk.2.2.1, hk.2.2.2⟩
theorem V.step {l : List St} (h : V l) {t : Int} (h0 : 0 ≤ t) : mom (t + 1) l = mom t l + Tm.off t 0 l := by
  obtain ⟨x, l', rfl, hx, ha⟩ := h.ne
  exact mom_step l' x ha (by omega)
theorem V.zero {l : List St} (h : V l) : mom 0 l = 0 := mom_zero l (fun x hx => (h.ok x hx).1)
theorem V.mono {l : List St} (h : V l) {a : Int} (h0 : 0 ≤ a) : ∀ (d : Nat), mom a l + d ≤ mom (a + d) l ∧ mom (a + d) l ≤ mom a l + d * 4194304 := by
  intro d
  induction d with
  | zero => simp
  | succ d ih =>
    have hs := h.step (t := a + d) (by omega)
    have ho := h.off (t := a + d) (by omega)
    have e : a + ((d + 1 : Nat) : Int) = a + d + 1 := by omega
    rw [e, hs]
    omega
theorem V.lt {l : List St} (h : V l) {a b : Int} (h0 : 0 ≤ a) (h1 : a ≤ b) : mom a l + (b - a) ≤ mom b l ∧ mom b l ≤ mom a l + (b - a) * 4194304 := by
  have := h.mono h0 (b - a).toNat
  rw [show a + ((b - a).toNat : Int) = b by omega] at this
  omega
theorem V.bd {l : List St} (h : V l) {t : Int} (h0 : 0 ≤ t) (h1 : t ≤ 8192) : t ≤ mom t l ∧ mom t l ≤ 34359738368 := by
  have := h.lt (a := 0) (b := t) (by omega) h0
  rw [h.zero] at this
  omega
/-- r is the tick of the moment x. -/
structure IsTick (l : List St) (x r : Int) : Prop where
  lo : 0 ≤ r
  hi : r ≤ 8192
  le : mom r l ≤ x
  lt : r < 8192 → x < mom (r + 1) l
theorem IsTick.one {l : List St} (h : V l) {x r s : Int} (hr : IsTick l x r) (hs : IsTick l x s) : r = s := by
  have key : ∀ {a b : Int}, IsTick l x a → IsTick l x b → ¬ a < b := by
    intro a b ha hb hab
    have h1 := ha.lt (by have := hb.hi; omega)
    have h2 := h.lt (a := a + 1) (b := b) (by have := ha.lo; omega) (by omega)
    have h3 := hb.le
    omega
  have := key hr hs
  have := key hs hr
  omega
end Go.Proofs.Ytljjgcfifhfhdaa.Tm
