/- All, by hand: what it answers. -/
import Derived.Test.YteflngoiebgdaaaX9
import Derived.Test.YteflngoiebgdaaaX26
import Derived.Test.YteflngoiebgdaaaClPairs
namespace Go.Proofs.Yteflngoiebgdaaa.Cl
open Go.RowKit Go.Proofs.YteflngoiebgdaaaW.PrintWords Go.Proofs.Yteflngoiebgdaaa.X Go.Proofs.Yteflngoiebgdaaa.Fl Go.Proofs.Yteflngoiebgdaaa.GeoImpl Go.Proofs.Yteflngoiebgdaaa.Geo
set_option linter.unusedVariables false
set_option linter.unusedSimpArgs false
/-! ### All -/
def hts (M : Nat → Pr → Bool) (p : Pr) : Nat → Nat → List Ht
  | 0, _ => []
  | d + 1, t => if M t p = true then [⟨(t : Int), (p.1 : Int), (p.2 : Int)⟩] else hts M p d (t + 1)
theorem hts_len (M : Nat → Pr → Bool) (p : Pr) : ∀ d t, (hts M p d t).length ≤ 1
  | 0, _ => Nat.zero_le _
  | d + 1, t => by
    rw [hts]
    split
    · exact Nat.le_refl _
    · exact hts_len M p d (t + 1)
def alls (M : Nat → Pr → Bool) (N : Nat) (l : List Pr) : List Ht := l.flatMap fun p => hts M p N 0
theorem alls_append (M : Nat → Pr → Bool) (N : Nat) (l m : List Pr) : alls M N (l ++ m) = alls M N l ++ alls M N m := by simp [alls]
theorem alls_cons (M : Nat → Pr → Bool) (N : Nat) (p : Pr) (m : List Pr) : alls M N (p :: m) = hts M p N 0 ++ alls M N m := by simp [alls]
theorem alls_len (M : Nat → Pr → Bool) (N : Nat) : ∀ l, (alls M N l).length ≤ l.length
  | [] => Nat.le_refl _
  | p :: l => by
    have h1 := hts_len M p N 0
    have h2 := alls_len M N l
    rw [alls_cons, List.length_append, List.length_cons]
    omega
theorem hits_f (k : Nat) (l : List Mv) (r : List Int) (c : List Ct) (hg : Good l r c) (hk : 60 ≤ k) (a b : Nat) (ha : a < l.length) (hb : b < l.length) : ∀ d t, t + d ≤ tks l → collide_All.hits k l r c a b d t = some (hts (mt l r c) (a, b) d t)
  | 0, _, _ => rfl
  | d + 1, t, h => by
    unfold collide_All.hits
    rw [meet_f k l r c hg a b t ha hb (by omega) hk, Option.bind_some, hits_f k l r c hg hk a b ha hb d (t + 1) (by omega), hts]
    cases mt l r c t (a, b) <;> rfl
theorem all_f (k : Nat) (l : List Mv) (r : List Int) (c : List Ct) (hc : collide_Check.f k l r c = some 0) (hg : Good l r c) (hk : 60 ≤ k) :
    collide_All.f k l r c = some (alls (mt l r c) (tks l) (prsN l.length), 0) := by
  have := hg.len
  have := hg.few
  unfold collide_All.f
  rw [hc, Option.bind_some, if_pos rfl, length_f, Option.bind_some, if_pos ⟨by omega, by omega⟩, Int.toNat_natCast, collide_pairs.all_map (g := fun p => hts (mt l r c) p (tks l) 0) (fun p hp => ?_), Option.bind_some]
  · unfold alls
    rw [List.flatMap_def]
  · have := collide_pairs.prs_mem hp
    exact hits_f k l r c hg hk p.1 p.2 (by omega) (by omega) _ _ (by omega)
theorem prs_len (n : Nat) (h : n ≤ 5) : (prsN n).length ≤ 25 := by
  have := collide_All.rows_length collide_pairs.mk n n
  have h2 : n * n ≤ 5 * 5 := Nat.mul_le_mul h h
  show (collide_pairs.rows collide_pairs.mk n n).length ≤ 25
  omega
end Go.Proofs.Yteflngoiebgdaaa.Cl
