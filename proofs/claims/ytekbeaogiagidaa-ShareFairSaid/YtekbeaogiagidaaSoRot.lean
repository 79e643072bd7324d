/- Two neighbouring parts of a row change their places, walked. -/
import Derived.Test.YtekbeaogiagidaaSoList
namespace Go.Proofs.Ytekbeaogiagidaa.So
set_option linter.unusedVariables false
set_option linter.unusedSimpArgs false
open Go.Shelf Go.RowKit Go.Lib Go.Sort
theorem swapRange_list {w0 w : World} {blk cap N : Nat} (R : Row w0 blk N) (A U B V C : List Nat) (z1 z2 z3 : Int) (fv : Value) (h1 : z1 = (A.length : Int)) (h2 : z2 = (A.length : Int) + U.length + B.length) (h3 : z3 = (U.length : Int)) (hUV : V.length = U.length)
    (hN : (A ++ (U ++ (B ++ (V ++ C)))).length = N) (S : At w0 blk (A ++ (U ++ (B ++ (V ++ C)))).toArray w) :
    Calls Try.prog 43 #[.slice (some ⟨blk, 0, none⟩) N cap, .int .i64 z1, .int .i64 z2, .int .i64 z3, fv] w fun e w' => e = .returned (.tuple #[]) ∧ At w0 blk (A ++ (V ++ (B ++ (U ++ C)))).toArray w' := by
  subst h1
  subst h3
  obtain rfl : z2 = ((A.length + U.length + B.length : Nat) : Int) := by omega
  simp only [List.length_append] at hN
  have h := swapRange_calls w0 w blk cap N _ fv R (by simp only [List.size_toArray, List.length_append]; omega) S A.length (A.length + U.length + B.length) U.length (by omega) (by omega)
  rw [swapR_all A U B V C rfl rfl hUV rfl] at h
  exact h
set_option maxHeartbeats 8000000 in
set_option maxRecDepth 1000000 in
theorem rotate_calls (w0 w : World) (blk cap N : Nat) (X U V Y : List Nat) (z1 z2 z3 : Int) (fv : Value) (R : Row w0 blk N) (h1 : z1 = (X.length : Int)) (h2 : z2 = (X.length : Int) + U.length) (h3 : z3 = (X.length : Int) + U.length + V.length) (hU : 0 < U.length) (hV : 0 < V.length)
    (hN : (X ++ (U ++ (V ++ Y))).length = N) (S : At w0 blk (X ++ (U ++ (V ++ Y))).toArray w) :
    Calls Try.prog 42 #[.slice (some ⟨blk, 0, none⟩) N cap, .int .i64 z1, .int .i64 z2, .int .i64 z3, fv] w fun e w' => e = .returned (.tuple #[]) ∧ At w0 blk (X ++ (V ++ (U ++ Y))).toArray w' := by
  have hfew := R.few
  obtain ⟨a, ha⟩ : ∃ a, a = X.length := ⟨_, rfl⟩
  obtain ⟨i0, hi0⟩ : ∃ i, i = U.length := ⟨_, rfl⟩
  obtain ⟨j0, hj0⟩ : ∃ j, j = V.length := ⟨_, rfl⟩
  obtain ⟨m, hm⟩ : ∃ m, m = a + i0 := ⟨_, rfl⟩
  have hN' : m + j0 ≤ N := by simp only [List.length_append] at hN; omega
  have e1 : z1 = (m : Int) - (i0 : Int) := by omega
  have e2 : z2 = (m : Int) := by omega
  have e3 : z3 = (m : Int) + (j0 : Int) := by omega
  have him : i0 ≤ m := by omega
  have hi1 : 0 < i0 := by omega
  have hj1 : 0 < j0 := by omega
  subst e1
  subst e2
  subst e3
  have S0 : Aside (At w0 blk (X ++ (U ++ (V ++ Y))).toArray w) := S
  have HN : Aside ((X ++ (U ++ (V ++ Y))).length = N) := hN
  have HU : Aside (U.length = i0) := hi0.symm
  have HV : Aside (V.length = j0) := hj0.symm
  have HM : Aside (X.length + U.length = m) := by show _ = _; omega
  have w1 : IntKind.i64.wrap ((m : Int) - ((m : Int) - (i0 : Int))) = (i0 : Int) := by rw [IntKind.wrap_i64]; omega
  have w2 : IntKind.i64.wrap ((m : Int) + (j0 : Int) - (m : Int)) = (j0 : Int) := by rw [IntKind.wrap_i64]; omega
  clear hU hV hN S h1 h2 h3 hi0 hj0 hm ha
  go_enter Try.func42, Try.ntmps42
  go_wp2
  go_loopg [10, 11] (i0 + j0) (fun gq s10 s11 wr => ∃ (i j : Nat) (A U' V' C : List Nat), s10 = .int .i64 (i : Int) ∧ s11 = .int .i64 (j : Int) ∧ 0 < i ∧ 0 < j ∧ i ≤ m ∧ m + j ≤ N ∧ i + j ≤ gq ∧ Aside (U'.length = i) ∧ Aside (V'.length = j) ∧ Aside (A.length + U'.length = m) ∧ Aside (A ++ (V' ++ (U' ++ C)) = X ++ (V ++ (U ++ Y))) ∧ Aside ((A ++ (U' ++ (V' ++ C))).length = N) ∧ Aside (At w0 blk (A ++ (U' ++ (V' ++ C))).toArray wr))
  case atStart => exact ⟨i0, j0, X, U, V, Y, by first | rfl | (congr 1; omega), by first | rfl | (congr 1; omega), hi1, hj1, him, hN', Nat.le_refl _, HU, HV, HM, rfl, HN, S0⟩
  case round =>
    clear S0 HN HU HV HM w1 w2
    obtain ⟨i, j, A, U', V', C, rfl, rfl, hi, hj, him, hjN, hg, HU, HV, HM, HT, HN, S1⟩ := hrel
    by_cases hij : i = j
    · subst hij
      have t1 : ((i : Int) != (i : Int)) = false := by simp
      go_wp2_with (go_at_call 43; refine (swapRange_list R A U' [] V' C _ _ _ _ ?c1 ?c2 ?c3 ?c4 ?c5 S1.out).mono ?_; (case c1 => have h1 := HU.out; have h2 := HM.out; omega); (case c2 => have h2 := HM.out; simp; omega); (case c3 => have h1 := HU.out; omega); (case c4 => have h1 := HU.out; have h2 := HV.out; omega); (case c5 => exact HN.out); rintro e w2 ⟨rfl, S2⟩; have S3 : Aside _ := S2; clear S2)
      go_end0
      refine ⟨rfl, ?_⟩
      rw [← HT.out]
      exact S3.out
    · have t1 : ((i : Int) != (j : Int)) = true := by rw [bne_iff_ne]; omega
      have hU' := HU.out
      have hV' := HV.out
      have hM' := HM.out
      by_cases hgt : j < i
      · have t2 : decide ((i : Int) > (j : Int)) = true := decide_eq_true (by omega)
        have t3 : decide (j < i) = true := decide_eq_true hgt
        obtain ⟨U1, U2, hu, hl⟩ : ∃ U1 U2, U' = U1 ++ U2 ∧ U1.length = j := ⟨U'.take j, U'.drop j, (List.take_append_drop _ _).symm, by rw [List.length_take]; omega⟩
        subst hu
        have hl2 : U2.length = i - j := by simp at hU'; omega
        have S2 : Aside (At w0 blk (A ++ (U1 ++ (U2 ++ (V' ++ C)))).toArray wr) := by have h := S1.out; rw [List.append_assoc] at h; exact h
        have HN2 : Aside ((A ++ (U1 ++ (U2 ++ (V' ++ C)))).length = N) := by have h := HN.out; rw [List.append_assoc] at h; exact h
        have HN3 : Aside (((A ++ V') ++ (U2 ++ (U1 ++ C))).length = N) := by have h : (A ++ (U1 ++ (U2 ++ (V' ++ C)))).length = N := HN2.out; show _ = _; simp only [List.length_append] at h ⊢; omega
        have HT2 : Aside ((A ++ V') ++ (U1 ++ (U2 ++ C)) = X ++ (V ++ (U ++ Y))) := by show _ = _; rw [← HT.out]; simp
        have L1 : Aside (U1.length = j) := hl
        have L2 : Aside (U2.length = i - j) := hl2
        have L3 : Aside ((A ++ V').length + U2.length = m) := by show _ = _; simp only [List.length_append] at hM' ⊢; omega
        have L4 : Aside (A.length = m - i) := by show _ = _; omega
        have w1 : IntKind.i64.wrap ((i : Int) - (j : Int)) = (i : Int) - (j : Int) := by rw [IntKind.wrap_i64]; omega
        have w2 : IntKind.i64.wrap ((m : Int) - (i : Int)) = (m : Int) - (i : Int) := by rw [IntKind.wrap_i64]; omega
        clear hU' hV' hM' hl hl2 S1 HN HT HM HU
        go_wp2_with (go_at_call 43; refine (swapRange_list R A U1 U2 V' C _ _ _ _ ?c1 ?c2 ?c3 ?c4 ?c5 S2.out).mono ?_; (case c1 => have h1 := L4.out; omega); (case c2 => have h1 := L1.out; have h2 := L2.out; have h3 := L4.out; omega); (case c3 => have h1 := L1.out; omega); (case c4 => have h1 := L1.out; have h2 := HV.out; omega); (case c5 => exact HN2.out); rintro e w2 ⟨rfl, S2⟩; have S3 : Aside _ := S2; clear S2)
        go_roundg i
        case measure => omega
        case rel => exact ⟨i - j, j, A ++ V', U2, U1, C, by first | rfl | (congr 1; omega), rfl, by omega, hj, by omega, hjN, by omega, L2, L1, L3, HT2, HN3, by have h : At w0 blk (A ++ (V' ++ (U2 ++ (U1 ++ C)))).toArray _ := S3.out; rw [← List.append_assoc] at h; exact h⟩
      · have hgt' : i < j := by omega
        have t2 : decide ((i : Int) > (j : Int)) = false := decide_eq_false (by omega)
        have t3 : decide (j < i) = false := decide_eq_false hgt
        obtain ⟨V1, V2, hv, hl⟩ : ∃ V1 V2, V' = V1 ++ V2 ∧ V1.length = j - i := ⟨V'.take (j - i), V'.drop (j - i), (List.take_append_drop _ _).symm, by rw [List.length_take]; omega⟩
        subst hv
        have hl2 : V2.length = i := by simp at hV'; omega
        have S2 : Aside (At w0 blk (A ++ (U' ++ (V1 ++ (V2 ++ C)))).toArray wr) := by have h := S1.out; rw [List.append_assoc V1] at h; exact h
        have HN2 : Aside ((A ++ (U' ++ (V1 ++ (V2 ++ C)))).length = N) := by have h := HN.out; rw [List.append_assoc V1] at h; exact h
        have HN3 : Aside ((A ++ (V2 ++ (V1 ++ (U' ++ C)))).length = N) := by have h : (A ++ (U' ++ (V1 ++ (V2 ++ C)))).length = N := HN2.out; show _ = _; simp only [List.length_append] at h ⊢; omega
        have HT2 : Aside (A ++ (V1 ++ (V2 ++ (U' ++ C))) = X ++ (V ++ (U ++ Y))) := by show _ = _; rw [← HT.out]; simp
        have L1 : Aside (V1.length = j - i) := hl
        have L2 : Aside (V2.length = i) := hl2
        have L3 : Aside (A.length + V2.length = m) := by show _ = _; omega
        have L4 : Aside (A.length = m - i) := by show _ = _; omega
        have w1 : IntKind.i64.wrap ((j : Int) - (i : Int)) = (j : Int) - (i : Int) := by rw [IntKind.wrap_i64]; omega
        have w2 : IntKind.i64.wrap ((m : Int) - (i : Int)) = (m : Int) - (i : Int) := by rw [IntKind.wrap_i64]; omega
        have w3 : IntKind.i64.wrap ((m : Int) + (j : Int)) = (m : Int) + (j : Int) := by rw [IntKind.wrap_i64]; omega
        have w4 : IntKind.i64.wrap ((m : Int) + (j : Int) - (i : Int)) = (m : Int) + (j : Int) - (i : Int) := by rw [IntKind.wrap_i64]; omega
        clear hU' hV' hM' hl hl2 S1 HN HT HM HV
        go_wp2_with (go_at_call 43; refine (swapRange_list R A U' V1 V2 C _ _ _ _ ?c1 ?c2 ?c3 ?c4 ?c5 S2.out).mono ?_; (case c1 => have h1 := L4.out; omega); (case c2 => have h1 := L1.out; have h2 := HU.out; have h3 := L4.out; omega); (case c3 => have h1 := HU.out; omega); (case c4 => have h1 := L2.out; have h2 := HU.out; omega); (case c5 => exact HN2.out); rintro e w2 ⟨rfl, S2⟩; have S3 : Aside _ := S2; clear S2)
        go_roundg j
        case measure => omega
        case rel => exact ⟨i, j - i, A, V2, V1, U' ++ C, rfl, by first | rfl | (congr 1; omega), hi, by omega, him, by omega, by omega, L2, L1, L3, HT2, HN3, S3⟩
end Go.Proofs.Ytekbeaogiagidaa.So
