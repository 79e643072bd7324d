/- The pairs of dancers, from a place on. -/
import Derived.Test.YteflngoiebgdaaaClMeet
import Derived.Test.YteflngoiebgdaaaXPairs
namespace Go.Proofs.Yteflngoiebgdaaa.Cl
open Go.RowKit Go.Proofs.YteflngoiebgdaaaW.PrintWords Go.Proofs.Yteflngoiebgdaaa.X Go.Proofs.Yteflngoiebgdaaa.Fl Go.Proofs.Yteflngoiebgdaaa.GeoImpl Go.Proofs.Yteflngoiebgdaaa.Geo
set_option linter.unusedVariables false
set_option linter.unusedSimpArgs false
abbrev Pr := Nat × Nat
/-! ### the pairs, from a place on -/
def sg (a : Nat) : Nat → Nat → List Pr
  | _, 0 => []
  | b, d + 1 => (a, b) :: sg a (b + 1) d
def rws (n : Nat) : Nat → Nat → List Pr
  | _, 0 => []
  | a, d + 1 => sg a (a + 1) (n - (a + 1)) ++ rws n (a + 1) d
abbrev prsN (n : Nat) : List Pr := collide_pairs.prs collide_pairs.mk n
theorem sg_eq (a : Nat) : ∀ d b, sg a b d = (List.range d).map fun i => (a, b + i)
  | 0, _ => rfl
  | d + 1, b => by
    rw [sg, sg_eq a d (b + 1), List.range_succ_eq_map, List.map_cons, List.map_map]
    congr 1
    refine List.map_congr_left (fun i _ => ?_)
    show (a, b + 1 + i) = (a, b + (i + 1))
    rw [show b + 1 + i = b + (i + 1) by omega]
theorem rws_prs (n : Nat) : ∀ d a, a + d = n → collide_pairs.rows collide_pairs.mk n a ++ rws n a d = prsN n
  | 0, a, h => by
    obtain rfl : a = n := by omega
    exact List.append_nil _
  | d + 1, a, h => by
    rw [rws, ← List.append_assoc, ← rws_prs n d (a + 1) (by omega)]
    congr 2
    rw [sg_eq]
    rfl
theorem prs_rws (n : Nat) : prsN n = rws n 0 n := by rw [← rws_prs n n 0 (by omega)]; rfl
theorem sg_mem {a : Nat} {p : Pr} : ∀ {d b : Nat}, p ∈ sg a b d → p.1 = a ∧ b ≤ p.2 ∧ p.2 < b + d
  | 0, _, h => by cases h
  | d + 1, b, h => by
    rcases List.mem_cons.1 h with rfl | h
    · exact ⟨rfl, Nat.le_refl _, by show b < b + (d + 1); omega⟩
    · have := sg_mem h; omega
end Go.Proofs.Yteflngoiebgdaaa.Cl
