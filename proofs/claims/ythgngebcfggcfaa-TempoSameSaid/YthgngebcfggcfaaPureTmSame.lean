/- The statement TempoSame over numbers and lists. -/
import Derived.Test.YthgngebcfggcfaaX41
import Derived.Test.YthgngebcfggcfaaTmAwake
namespace Go.Proofs.Ythgngebcfggcfaa.Pure
open Go.RowKit Go.Proofs.YthgngebcfggcfaaW.PrintWords Go.Proofs.Ythgngebcfggcfaa.X Go.Proofs.Ythgngebcfggcfaa.Tm Go.Proofs.Ythgngebcfggcfaa.TmImpl
set_option linter.unusedVariables false
set_option linter.unusedSimpArgs false
theorem asc_weak {p q : Int} (h : p ≤ q) {l : List St} (ha : asc q l = true) : asc p l = true := by
  cases l with
  | nil => rfl
  | cons x l =>
    simp only [asc, Bool.and_eq_true, decide_eq_true_eq] at ha ⊢
    exact ⟨by omega, ha.2⟩
theorem asc_cons {p : Int} {x : St} {l : List St} : asc p (x :: l) = true ↔ p < x.f0 ∧ asc x.f0 l = true := by
  simp only [asc, Bool.and_eq_true, decide_eq_true_eq]
theorem go_asc : ∀ (l : List St) (p q : Int), asc p l = true → asc p (tempo_Norm.go q l) = true := by
  intro l
  induction l with
  | nil => intro p q _; rfl
  | cons x l ih =>
    intro p q h
    obtain ⟨h1, h2⟩ := asc_cons.1 h
    simp only [tempo_Norm.go]
    split
    · exact ih p _ (asc_weak (by omega) h2)
    · exact asc_cons.2 ⟨h1, ih x.f0 _ h2⟩
theorem go_mem : ∀ (l : List St) (q : Int) (x : St), x ∈ tempo_Norm.go q l → x ∈ l := by
  intro l
  induction l with
  | nil => intro q x h; simp [tempo_Norm.go] at h
  | cons y l ih =>
    intro q x h
    simp only [tempo_Norm.go] at h
    split at h
    · exact List.mem_cons_of_mem _ (ih _ x h)
    · rcases List.mem_cons.1 h with rfl | h
      · exact List.mem_cons_self ..
      · exact List.mem_cons_of_mem _ (ih _ x h)
def nadj : Int → List St → Prop
  | _, [] => True
  | p, x :: l => x.f1 ≠ p ∧ nadj x.f1 l
theorem go_nadj : ∀ (l : List St) (p : Int), nadj p (tempo_Norm.go p l) := by
  intro l
  induction l with
  | nil => intro p; trivial
  | cons x l ih =>
    intro p
    simp only [tempo_Norm.go]
    split
    · rename_i h
      rw [← h]
      exact ih x.f1
    · rename_i h
      exact ⟨h, ih x.f1⟩
theorem mom_cons (t : Int) (x y : St) (l : List St) : mom t (x :: y :: l) = max (min t y.f0 - x.f0) 0 * x.f1 + mom t (y :: l) := rfl
theorem mom_merge (t : Int) (x y : St) (l : List St) (he : y.f1 = x.f1) (hx : x.f0 < y.f0) (ha : asc y.f0 l = true) : mom t (x :: y :: l) = mom t (x :: l) := by
  cases l with
  | nil =>
    rw [mom_cons]
    simp only [mom]
    rw [he, ← Int.add_mul, show max (min t y.f0 - x.f0) 0 + max (t - y.f0) 0 = max (t - x.f0) 0 by omega]
  | cons z l =>
    have hz := (asc_cons.1 ha).1
    rw [mom_cons, mom_cons, mom_cons, he, ← Int.add_assoc, ← Int.add_mul, show max (min t y.f0 - x.f0) 0 + max (min t z.f0 - y.f0) 0 = max (min t z.f0 - x.f0) 0 by omega]
theorem mom_go (t : Int) : ∀ (l : List St) (x : St), asc x.f0 l = true → mom t (x :: tempo_Norm.go x.f1 l) = mom t (x :: l) := by
  intro l
  induction l with
  | nil => intro x _; rfl
  | cons y l ih =>
    intro x h
    obtain ⟨h1, h2⟩ := asc_cons.1 h
    simp only [tempo_Norm.go]
    split
    · rename_i he
      rw [mom_merge t x y l he h1 h2, he]
      exact ih x (asc_weak (by omega) h2)
    · rw [mom_cons, mom_cons, ih y h2]
theorem nrm_V {l : List St} (h : V l) : V (tempo_Norm.nrm l) := by
  obtain ⟨x, l', rfl, h0, h1⟩ := h.ne
  refine ⟨⟨x, tempo_Norm.go x.f1 l', rfl, h0, go_asc l' _ _ h1⟩, ?_, ?_⟩
  · have := tempo_Norm.nrm_le (x :: l')
    have := h.le
    omega
  · intro z hz
    simp only [tempo_Norm.nrm] at hz
    rcases List.mem_cons.1 hz with rfl | hz
    · exact h.ok _ (List.mem_cons_self ..)
    · exact h.ok z (List.mem_cons_of_mem _ (go_mem _ _ _ hz))
theorem nrm_mom {l : List St} (h : V l) (t : Int) : mom t (tempo_Norm.nrm l) = mom t l := by
  obtain ⟨x, l', rfl, h0, h1⟩ := h.ne
  exact mom_go t l' x h1
theorem same_loop (l q : List St) (t : Int) (hq : q.length ≤ 64) (R : Option Bool) (hR : ∀ k, 14000 ≤ k → dancestudiolaw14_TempoSame.l0 k l t q (q.length : Int) = R) : ∀ (s : List St) (i k : Nat) (p : St), 1 ≤ i → q.drop i = s → rd_T38 q ((i - 1 : Nat) : Int) = p → nadj p.f1 s → s.length + 14000 < k →
    dancestudiolaw14_TempoSame.l0 k l t q (i : Int) = R := by
  intro s
  induction s with
  | nil =>
    intro i k p h1 hd hp _ hk
    have hi : q.length ≤ i := List.drop_eq_nil_iff.1 hd
    obtain ⟨k, rfl⟩ : ∃ m, k = m + 1 := ⟨k - 1, by omega⟩
    have := hR (k + 1) (by omega)
    rw [dancestudiolaw14_TempoSame.l0, if_neg (by omega)] at this
    rw [dancestudiolaw14_TempoSame.l0, if_neg (by omega)]
    exact this
  | cons x s ih =>
    intro i k p h1 hd hp hn' hk
    simp only [List.length_cons] at hk
    obtain ⟨k, rfl⟩ : ∃ m, k = m + 1 := ⟨k - 1, by omega⟩
    obtain ⟨hx, hi, hn⟩ := rdT hd
    rw [dancestudiolaw14_TempoSame.l0, if_pos (by omega), if_pos (by omega), w64 (x := (i : Int) - 1) (by omega) (by omega), if_pos (by omega), if_pos (by omega), hx, show (i : Int) - 1 = ((i - 1 : Nat) : Int) by omega, hp, if_neg hn'.1, w64 (by omega) (by omega), show (i : Int) + 1 = ((i + 1 : Nat) : Int) by omega]
    exact ih (i + 1) k x (by omega) hn (by rw [Nat.add_sub_cancel]; exact hx) hn'.2 (by omega)
theorem TempoSame (l : List St) (t : Int) : ∃ k, X.dancestudiolaw14_TempoSame.f k l t = some true := by
  refine ⟨20000, ?_⟩
  generalize hk : 20000 = k
  obtain ⟨k, rfl⟩ : ∃ m, k = m + 1 := ⟨k - 1, by omega⟩
  have out : dancestudiolaw14_TempoSame.j0 (k + 1) l t true = some true := by
    rw [dancestudiolaw14_TempoSame.j0, if_pos rfl, awake_f k (by omega), Option.bind_some]
  unfold dancestudiolaw14_TempoSame.f
  rw [tCheck_f (k + 1) l (by omega), Option.bind_some]
  by_cases h : chk l = 0
  · rw [if_pos h]
    by_cases h0 : t < 0
    · rw [if_pos h0, out]
    · rw [if_neg h0]
      by_cases h1 : t > 8192
      · rw [decide_eq_true h1, out]
      · rw [decide_eq_false h1]
        have hV := chk_V h
        have hl := hV.le
        have hN := nrm_V hV
        have hq := hN.le
        have hle := tempo_Norm.nrm_le l
        have e2 : nor l = (tempo_Norm.nrm l, 0) := by unfold nor; rw [if_pos h]
        rw [dancestudiolaw14_TempoSame.j0, if_neg (by simp), tNorm_f k l (by omega), e2, Option.bind_some, if_pos rfl, tCheck_f k _ (by omega), Option.bind_some, if_pos hN.chk, decide_eq_false (show ¬ (((tempo_Norm.nrm l, (0 : Int)).1.length : Int) > (l.length : Int)) by simp only; omega)]
        obtain ⟨k, rfl⟩ : ∃ m, k = m + 1 := ⟨k - 1, by omega⟩
        rw [dancestudiolaw14_TempoSame.j1, if_neg (by simp), show (1 : Int) = ((1 : Nat) : Int) from rfl]
        obtain ⟨x, l', hl', _, _⟩ := hV.ne
        have hw : ∀ q, V q → whn q t = (mom t q, 0) := fun q hq => by unfold whn; rw [if_pos hq.chk, if_pos (by omega)]
        refine same_loop l _ t hq _ ?_ (tempo_Norm.go x.f1 l') 1 k x (by omega) (by rw [hl']; rfl) (by rw [hl']; rfl) (go_nadj _ _) (by have := tempo_Norm.go_le l' x.f1; rw [hl'] at hl; simp at hl; omega)
        intro k hk
        obtain ⟨k, rfl⟩ : ∃ m, k = m + 1 := ⟨k - 1, by omega⟩
        rw [dancestudiolaw14_TempoSame.l0, if_neg (by omega), tWhen_f k l t (by omega), hw l hV, Option.bind_some, if_pos rfl, when_ok k _ t (mom t l) (by rw [hw _ hN, nrm_mom hV]) (by omega), Option.bind_some, if_pos rfl, awake_f k (by omega), Option.bind_some]
  · rw [if_neg h, out]
end Go.Proofs.Ythgngebcfggcfaa.Pure
