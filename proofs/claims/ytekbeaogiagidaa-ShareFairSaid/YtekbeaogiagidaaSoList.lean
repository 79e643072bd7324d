/- Rows as lists: an exchange, and the exchange of two parts. -/
import Derived.Test.YtekbeaogiagidaaSoRow
namespace Go.Proofs.Ytekbeaogiagidaa.So
set_option linter.unusedVariables false
set_option linter.unusedSimpArgs false
open Go.Shelf Go.RowKit Go.Lib Go.Sort
theorem get_mid {A : List Nat} {x : Nat} {B : List Nat} {k : Nat} (h : k = A.length) : (A ++ x :: B).toArray[k]! = x := by
  subst h
  rw [getElem!_pos _ _ (by simp)]
  simp
theorem set_mid {A : List Nat} {x : Nat} {B : List Nat} {k : Nat} (h : k = A.length) (y : Nat) : (A ++ x :: B).toArray.setIfInBounds k y = (A ++ y :: B).toArray := by
  subst h
  rw [List.setIfInBounds_toArray, List.set_append_right _ _ (Nat.le_refl _), Nat.sub_self]
  rfl
/-- Two numbers of a list change their places. -/
theorem swp_list (A B C : List Nat) (x y : Nat) {i j : Nat} (hi : i = A.length) (hj : j = A.length + 1 + B.length) : swp (A ++ x :: (B ++ y :: C)).toArray i j = (A ++ y :: (B ++ x :: C)).toArray := by
  have e : A ++ x :: (B ++ y :: C) = (A ++ x :: B) ++ y :: C := by simp
  have e2 : ∀ z, A ++ z :: (B ++ y :: C) = (A ++ z :: B) ++ y :: C := fun z => by simp
  unfold swp
  rw [get_mid hi, e, get_mid (by simp; omega), ← e, set_mid hi, e2, set_mid (by simp; omega)]
  simp
theorem swp_list' (A B C : List Nat) (x y : Nat) {i j : Nat} (hi : i = A.length) (hj : j = A.length + 1 + B.length) : swp (A ++ x :: (B ++ y :: C)).toArray j i = (A ++ y :: (B ++ x :: C)).toArray := by
  have e2 : ∀ z, A ++ z :: (B ++ y :: C) = (A ++ z :: B) ++ y :: C := fun z => by simp
  unfold swp
  rw [get_mid hi, e2 x, get_mid (by simp; omega), set_mid (by simp; omega)]
  rw [show (A ++ x :: B) ++ x :: C = A ++ x :: (B ++ x :: C) by simp, set_mid hi]
theorem swapR_list (A U B V C : List Nat) {a b n : Nat} (ha : a = A.length) (hU : U.length = n) (hV : V.length = n) (hb : b = A.length + U.length + B.length) :
    ∀ k, k ≤ n → swapR (A ++ (U ++ (B ++ (V ++ C)))).toArray a b k = (A ++ (V.take k ++ (U.drop k ++ (B ++ (U.take k ++ (V.drop k ++ C)))))).toArray
  | 0, _ => by simp [swapR]
  | k + 1, h => by
    rw [swapR, swapR_list A U B V C ha hU hV hb k (by omega)]
    have hu : U.drop k = U[k]'(by omega) :: U.drop (k + 1) := List.drop_eq_getElem_cons (by omega)
    have hv : V.drop k = V[k]'(by omega) :: V.drop (k + 1) := List.drop_eq_getElem_cons (by omega)
    have tu : U.take (k + 1) = U.take k ++ [U[k]'(by omega)] := List.take_succ_eq_append_getElem (by omega)
    have tv : V.take (k + 1) = V.take k ++ [V[k]'(by omega)] := List.take_succ_eq_append_getElem (by omega)
    rw [hu, hv, tu, tv]
    have h1 := swp_list (A ++ V.take k) (U.drop (k + 1) ++ (B ++ U.take k)) (V.drop (k + 1) ++ C) (U[k]'(by omega)) (V[k]'(by omega)) (i := a + k) (j := b + k) (by simp; omega) (by simp; omega)
    simp only [List.append_assoc, List.cons_append, List.nil_append] at h1 ⊢
    exact h1
theorem swapR_all (A U B V C : List Nat) {a b n : Nat} (ha : a = A.length) (hU : U.length = n) (hV : V.length = n) (hb : b = A.length + U.length + B.length) :
    swapR (A ++ (U ++ (B ++ (V ++ C)))).toArray a b n = (A ++ (V ++ (B ++ (U ++ C)))).toArray := by
  rw [swapR_list A U B V C ha hU hV hb n (Nat.le_refl _), List.take_of_length_le (by omega), List.take_of_length_le (by omega), List.drop_of_length_le (by omega), List.drop_of_length_le (by omega)]
  rfl
end Go.Proofs.Ytekbeaogiagidaa.So
