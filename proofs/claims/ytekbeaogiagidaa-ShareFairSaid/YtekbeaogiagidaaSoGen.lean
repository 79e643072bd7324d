/- symMerge where both parts are more than one number, walked. -/
import Derived.Test.YtekbeaogiagidaaSoCut
namespace Go.Proofs.Ytekbeaogiagidaa.So
set_option linter.unusedVariables false
set_option linter.unusedSimpArgs false
open Go.Shelf Go.RowKit Go.Lib Go.Sort
set_option maxHeartbeats 32000000 in
set_option maxRecDepth 1000000 in
theorem gen_calls (w0 w : World) (blk cap N g k : Nat) (cb : Array Value) (cf : Nat → Nat → Int) (pr : Nat → Nat → Prop) (X A B Y : List Nat) (z1 z2 z3 : Int) (R : Row w0 blk N) (eg : ∀ args w, (callFunc g args).run Try.prog w = .ok (.enter g args) w) (C : CmpOk g cb cf w0 blk N) (O : Ord cf N pr) (Q : Parts pr N X A B Y) (I : Sym w0 blk cap N g cb pr k)
    (hw : At w0 blk (X ++ (A ++ (B ++ Y))).toArray w) (h1 : z1 = (X.length : Int)) (h2 : z2 = (X.length : Int) + A.length) (h3 : z3 = (X.length : Int) + A.length + B.length) (hA2 : 2 ≤ A.length) (hB2 : 2 ≤ B.length) (hk : A.length + B.length ≤ k + 1) :
    Calls Try.prog 38 #[.slice (some ⟨blk, 0, none⟩) N cap, .int .i64 z1, .int .i64 z2, .int .i64 z3, .func (.func g) #[] cb] w (Done pr w0 blk X A B Y) := by
  have hfew := R.few
  have hN := Q.len
  simp only [List.length_append] at hN
  obtain ⟨a, ha⟩ : ∃ a, a = X.length := ⟨_, rfl⟩
  obtain ⟨p, hp⟩ : ∃ n, n = A.length := ⟨_, rfl⟩
  obtain ⟨q, hq⟩ : ∃ n, n = B.length := ⟨_, rfl⟩
  obtain ⟨e, he⟩ : ∃ e, e = (p + q) / 2 := ⟨_, rfl⟩
  rw [← ha] at h1 h2 h3 hN
  rw [← hp] at h2 h3 hN hA2 hk
  rw [← hq] at h3 hN hB2 hk
  subst h1
  subst h2
  subst h3
  have S0 : Aside (At w0 blk (X ++ (A ++ (B ++ Y))).toArray w) := hw
  have HC : Aside _ := C
  have HO : Aside _ := O
  have HQ : Aside _ := Q
  have HI : Aside _ := I
  have HX : Aside (a = X.length) := ha
  have HA : Aside (p = A.length) := hp
  have HB : Aside (q = B.length) := hq
  have HK : Aside (p + q ≤ k + 1) := hk
  have haN : a + p + q ≤ N := by omega
  have mixed : Try.prog.follows .mixedOrders = true := by kernel_rfl
  have w1 : IntKind.i64.wrap ((a : Int) + (p : Int) - (a : Int)) = (p : Int) := by rw [IntKind.wrap_i64]; omega
  have w2 : IntKind.i64.wrap ((a : Int) + (p : Int) + (q : Int) - ((a : Int) + (p : Int))) = (q : Int) := by rw [IntKind.wrap_i64]; omega
  have t1 : ((p : Int) == 1) = false := by rw [beq_eq_false_iff_ne]; omega
  have t2 : ¬ (p : Int) = 1 := by omega
  have t3 : ¬ p = 1 := by omega
  have t4 : ((q : Int) == 1) = false := by rw [beq_eq_false_iff_ne]; omega
  have t5 : ¬ (q : Int) = 1 := by omega
  have t6 : ¬ q = 1 := by omega
  have eM : ((a : Int) + ((a : Int) + (p : Int) + (q : Int))) / 2 = (a : Int) + (e : Int) := by omega
  have wn : IntKind.i64.wrap ((a : Int) + (e : Int) + ((a : Int) + (p : Int))) = (a : Int) + (e : Int) + ((a : Int) + (p : Int)) := by rw [IntKind.wrap_i64]; omega
  have wp : IntKind.i64.wrap ((a : Int) + (e : Int) + ((a : Int) + (p : Int)) - 1) = (a : Int) + (e : Int) + ((a : Int) + (p : Int)) - 1 := by rw [IntKind.wrap_i64]; omega
  have ws : IntKind.i64.wrap ((a : Int) + (e : Int) + ((a : Int) + (p : Int)) - ((a : Int) + (p : Int) + (q : Int))) = (a : Int) + (e : Int) - (q : Int) := by rw [IntKind.wrap_i64]; omega
  have he1 : 0 < e := by omega
  have he2 : e < p + q := by omega
  have hcase : (decide ((a : Int) + (p : Int) > (a : Int) + (e : Int)) = true ∧ q ≤ e ∧ e < p) ∨ (decide ((a : Int) + (p : Int) > (a : Int) + (e : Int)) = false ∧ p ≤ e ∧ e ≤ q) := by
    rcases Nat.lt_or_ge e p with h | h
    · exact .inl ⟨decide_eq_true (by omega), by omega, h⟩
    · exact .inr ⟨decide_eq_false (by omega), h, by omega⟩
  clear C O Q I hw ha hp hq hN hk he
  rcases hcase with ⟨tm, hqe, hep⟩ | ⟨tm, hpe, heq⟩
  · have tm2 : decide (e < p) = true := decide_eq_true (by omega)
    go_enter Try.func38, Try.ntmps38
    go_wp2
    clear w1 w2 t1 t2 t3 t4 t5 t6 wn wp ws eM tm tm2
    go_loopg [20, 21] (p + q) (fun gq s20 s21 wr => ∃ s r : Nat, s20 = .int .i64 ((a : Int) + (s : Int)) ∧ s21 = .int .i64 ((a : Int) + (r : Int)) ∧ s ≤ r ∧ r ≤ e ∧ r ≤ p ∧ e ≤ s + q ∧ r - s ≤ gq ∧ Aside (∀ x ∈ A.take s, ∀ y ∈ B.drop (e - s), pr x y) ∧ Aside (∀ y ∈ B.take (e - r), ∀ x ∈ A.drop r, pr y x) ∧ Aside (At w0 blk (X ++ (A ++ (B ++ Y))).toArray wr))
    case atStart => exact ⟨e - q, e, by go_num, by go_num, by omega, by omega, by omega, by omega, by omega, (show Aside (∀ x ∈ A.take _, ∀ y ∈ B.drop (e - (e - q)), pr x y) from fun x _ y h => by rw [show e - (e - q) = B.length from by rw [← HB.out]; omega, List.drop_length] at h; cases h), (show Aside (∀ y ∈ B.take (e - e), ∀ x ∈ A.drop _, pr y x) from fun y h => by rw [Nat.sub_self] at h; cases h), S0⟩
    case round =>
      clear S0
      obtain ⟨s, r, rfl, rfl, hsr, hre, hrp, hsq, hg, H1, H2, S1⟩ := hrel
      by_cases hlt : s < r
      · have hltz : (a : Int) + (s : Int) < (a : Int) + (r : Int) := by omega
        obtain ⟨h, hh⟩ : ∃ h : Nat, h = (s + r) / 2 := ⟨_, rfl⟩
        have ih : s ≤ h := by omega
        have jh : h < r := by omega
        have eh : ((a : Int) + (s : Int) + ((a : Int) + (r : Int))) / 2 = (a : Int) + (h : Int) := by omega
        clear hh
        obtain ⟨u, hu⟩ : ∃ u : Nat, e = u + 1 + h := ⟨e - 1 - h, by omega⟩
        have huq : u < q := by omega
        have hB := HB.out
        have hA := HA.out
        have hX := HX.out
        have hNQ : (X ++ (A ++ (B ++ Y))).length = N := HQ.out.len
        have hAh : h < A.length := by omega
        have hBu : u < B.length := by omega
        have dsz : (X ++ (A ++ (B ++ Y))).toArray.size = N := by simpa using hNQ
        have da : (X ++ (A ++ (B ++ Y))).toArray[a + h]! = A[h] := by
          have ee : X ++ (A ++ (B ++ Y)) = (X ++ A.take h) ++ A[h] :: (A.drop (h + 1) ++ (B ++ Y)) := by
            rw [split_app hAh (B ++ Y)]
            simp only [List.append_assoc]
          rw [ee]
          exact get_mid (by simp; omega)
        have db : (X ++ (A ++ (B ++ Y))).toArray[a + p + u]! = B[u] := by
          have ee : X ++ (A ++ (B ++ Y)) = (X ++ (A ++ B.take u)) ++ B[u] :: (B.drop (u + 1) ++ Y) := by
            rw [split_app hBu Y]
            simp only [List.append_assoc]
          rw [ee]
          exact get_mid (by simp; omega)
        have haN' : A[h] < N := HQ.out.all _ (by simp)
        have hbN : B[u] < N := HQ.out.all _ (by simp)
        have hxb : A[h] < B[u] := HQ.out.ab _ (List.getElem_mem _) _ (List.getElem_mem _)
        have hcm := HO.out.cm hxb hbN
        have hto := HO.out.tot haN' hbN (by omega)
        have KT : Aside (pr A[h] B[u] → ∀ x ∈ A.take (h + 1), ∀ y ∈ B.drop (e - (h + 1)), pr x y) := by
          rw [show e - (h + 1) = u by omega]
          exact cross_lo (pr := pr) (fun h1 h2 => HO.out.tr h1 h2) HQ.out.sa HQ.out.sb hAh hBu
        have KD : Aside (pr B[u] A[h] → ∀ y ∈ B.take (e - h), ∀ x ∈ A.drop h, pr y x) := by
          rw [show e - h = u + 1 by omega]
          exact cross_hi (pr := pr) (fun h1 h2 => HO.out.tr h1 h2) HQ.out.sa HQ.out.sb hAh hBu
        obtain ⟨y', b', ey, eb, cy, cb', hc⟩ := cmp_facts (i := a + p + u) (j := a + h) HC.out R dsz S1.out (by omega) (by omega) (by rw [db]; exact hbN) (by rw [da]; exact haN')
        rw [db] at ey
        rw [da] at eb
        rw [← eb, ← ey] at hcm hto KT KD
        have wi : IntKind.i64.wrap ((a : Int) + (e : Int) + ((a : Int) + (p : Int)) - 1 - ((a : Int) + (h : Int))) = (a : Int) + (p : Int) + (u : Int) := by rw [IntKind.wrap_i64]; omega
        have ei : ((a : Int) + (p : Int) + (u : Int)).toNat = a + p + u := by omega
        have ej : ((a : Int) + (h : Int)).toNat = a + h := by omega
        have pi : (0 : Int) ≤ (a : Int) + (p : Int) + (u : Int) := by omega
        have pj : (0 : Int) ≤ (a : Int) + (h : Int) := by omega
        have bi : (a : Int) + (p : Int) + (u : Int) < (N : Int) := by omega
        have bj : (a : Int) + (h : Int) < (N : Int) := by omega
        have hre2 : h ≤ e := by omega
        have hhp : h + 1 ≤ p := by omega
        have hhe : h + 1 ≤ e := by omega
        have hhq : e ≤ h + 1 + q := by omega
        clear hA hB hX hNQ dsz da db haN' hbN hxb ey eb hBu hAh
        have HU : Aside (e = u + 1 + h) := hu
        clear hu
        cases hlv : lt cf y' b' with
        | true =>
          have hv : cf y' b' < 0 := of_decide_eq_true hlv
          have hd : decide (cf y' b' < 0) = true := hlv
          have HT : Aside _ := KD.out (hcm.1 hv)
          clear hcm hto KT KD hlv
          go_wp2_with fail
          try rw [eh]
          go_quiet_grown (first | (go_at_fn g; refine Calls.grown_of (hc _ _)))
          have S2 : Aside (At w0 blk (X ++ (A ++ (B ++ Y))).toArray (grow (wr.drewN nq) osq)) := S1.out.grown nq osq
          clear cb' cy hc S1 eh
          generalize grow (wr.drewN nq) osq = w2 at S2 ⊢
          clear nq osq ei ej wi
          go_wp2
          go_roundg (h - s)
          case measure => omega
          case rel => exact ⟨s, h, rfl, rfl, ih, hre2, by omega, hsq, Nat.le_refl _, H1, HT, S2⟩
        | false =>
          have hv : ¬ cf y' b' < 0 := of_decide_eq_false hlv
          have hd : decide (cf y' b' < 0) = false := hlv
          have HT : Aside _ := KT.out (hto.resolve_right (fun q => hv (hcm.2 q)))
          clear hcm hto KT KD hlv
          go_wp2_with fail
          try rw [eh]
          go_quiet_grown (first | (go_at_fn g; refine Calls.grown_of (hc _ _)))
          have S2 : Aside (At w0 blk (X ++ (A ++ (B ++ Y))).toArray (grow (wr.drewN nq) osq)) := S1.out.grown nq osq
          clear cb' cy hc S1 eh
          generalize grow (wr.drewN nq) osq = w2 at S2 ⊢
          clear nq osq ei ej wi
          go_wp2
          go_roundg (r - (h + 1))
          case measure => omega
          case rel => exact ⟨h + 1, r, by go_num, rfl, by omega, hre, hrp, hhq, Nat.le_refl _, HT, H2, S2⟩
      · have hge : ¬ (a : Int) + (s : Int) < (a : Int) + (r : Int) := by omega
        obtain rfl : s = r := by omega
        obtain ⟨t, ht⟩ : ∃ t : Nat, e = s + t := ⟨e - s, by omega⟩
        have het : e - s = t := by omega
        rw [het] at H1 H2
        have HCUT : Aside (Cut w0 blk cap N g cb pr X A B Y a p q s t) := cut_of w0 blk cap N g cb pr X A B Y a p q s t k R HI.out HQ.out HX.out HA.out HB.out HK.out hrp (by omega) (by omega) (by omega) H1.out H2.out
        clear H1 H2 hlt
        have wE : IntKind.i64.wrap ((a : Int) + (e : Int) + ((a : Int) + (p : Int)) - ((a : Int) + (s : Int))) = (a : Int) + (p : Int) + (t : Int) := by rw [IntKind.wrap_i64]; omega
        have eE : (a : Int) + (e : Int) = (a : Int) + (s : Int) + (t : Int) := by omega
        clear het
        have htq : t ≤ q := by omega
        have hse : 0 < s + t := by omega
        have hs2 : s + t < p + q := by omega
        rcases (show (s = 0 ∧ 0 < t ∧ t < q ∧ s < p) ∨ (s = 0 ∧ 0 < t ∧ t = q ∧ s < p) ∨ (0 < s ∧ s < p ∧ t = 0 ∧ t < q) ∨ (0 < s ∧ s < p ∧ 0 < t ∧ t < q) ∨ (0 < s ∧ s < p ∧ 0 < t ∧ t = q) ∨ (0 < s ∧ s = p ∧ t = 0 ∧ t < q) ∨ (0 < s ∧ s = p ∧ 0 < t ∧ t < q) by omega) with c | c | c | c | c | c | c
        · have T1 : (a : Int) + (s : Int) < (a : Int) + (p : Int) := by omega
          have T2 : (a : Int) + (p : Int) < (a : Int) + (p : Int) + (t : Int) := by omega
          have T3 : ¬ (a : Int) < (a : Int) + (s : Int) := by omega
          have T4 : (a : Int) + (s : Int) < (a : Int) + (e : Int) := by omega
          have T5 : (a : Int) + (e : Int) < (a : Int) + (p : Int) + (t : Int) := by omega
          have T6 : (a : Int) + (p : Int) + (t : Int) < (a : Int) + (p : Int) + (q : Int) := by omega
          have F1 : Aside (0 < t ∧ s < p) := by show _ ∧ _; omega
          have F2 : Aside (¬ (0 < s ∧ 0 < t)) := by show ¬ _; omega
          have F3 : Aside (s < p ∧ t < q) := by show _ ∧ _; omega
          have HE : Aside ((a : Int) + (e : Int) = (a : Int) + (s : Int) + (t : Int)) := eE
          clear c hse hs2 htq eE ht
          go_wp2_with fail
          go_at_call 42; refine (HCUT.out.rot F1.out.1 F1.out.2 _ _ S1.out).mono ?_; rintro e' w2 ⟨rfl, hS⟩; have S2 : Aside _ := hS; clear hS S1
          have M1 : Aside _ := HCUT.out.noone F2.out; have S3 : Aside _ := S2.out
          go_wp2_with fail
          try rw [HE.out]
          go_at_call 38; refine (HCUT.out.two F3.out.1 F3.out.2 _ _ M1.out S3.out).mono ?_; intro e' w2 hD; obtain ⟨rfl, hD2⟩ := hD; have S4 : Aside _ := hD2; clear hD2 S3
          go_wp2
          go_end0
          exact ⟨rfl, S4.out⟩
        · have T1 : (a : Int) + (s : Int) < (a : Int) + (p : Int) := by omega
          have T2 : (a : Int) + (p : Int) < (a : Int) + (p : Int) + (t : Int) := by omega
          have T3 : ¬ (a : Int) < (a : Int) + (s : Int) := by omega
          have T4 : (a : Int) + (s : Int) < (a : Int) + (e : Int) := by omega
          have T5 : (a : Int) + (e : Int) < (a : Int) + (p : Int) + (t : Int) := by omega
          have T6 : ¬ (a : Int) + (p : Int) + (t : Int) < (a : Int) + (p : Int) + (q : Int) := by omega
          have F1 : Aside (0 < t ∧ s < p) := by show _ ∧ _; omega
          have F2 : Aside (¬ (0 < s ∧ 0 < t)) := by show ¬ _; omega
          have F3 : Aside (¬ (s < p ∧ t < q)) := by show ¬ _; omega
          have HE : Aside ((a : Int) + (e : Int) = (a : Int) + (s : Int) + (t : Int)) := eE
          clear c hse hs2 htq eE ht
          go_wp2_with fail
          go_at_call 42; refine (HCUT.out.rot F1.out.1 F1.out.2 _ _ S1.out).mono ?_; rintro e' w2 ⟨rfl, hS⟩; have S2 : Aside _ := hS; clear hS S1
          have M1 : Aside _ := HCUT.out.noone F2.out; have S3 : Aside _ := S2.out
          go_wp2
          go_end0
          exact HCUT.out.notwo F3.out _ _ M1.out S3.out
        · have T1 : (a : Int) + (s : Int) < (a : Int) + (p : Int) := by omega
          have T2 : ¬ (a : Int) + (p : Int) < (a : Int) + (p : Int) + (t : Int) := by omega
          have T3 : (a : Int) < (a : Int) + (s : Int) := by omega
          have T4 : ¬ (a : Int) + (s : Int) < (a : Int) + (e : Int) := by omega
          have T5 : (a : Int) + (e : Int) < (a : Int) + (p : Int) + (t : Int) := by omega
          have T6 : (a : Int) + (p : Int) + (t : Int) < (a : Int) + (p : Int) + (q : Int) := by omega
          have F1 : Aside (¬ (0 < t ∧ s < p)) := by show ¬ _; omega
          have F2 : Aside (¬ (0 < s ∧ 0 < t)) := by show ¬ _; omega
          have F3 : Aside (s < p ∧ t < q) := by show _ ∧ _; omega
          have HE : Aside ((a : Int) + (e : Int) = (a : Int) + (s : Int) + (t : Int)) := eE
          clear c hse hs2 htq eE ht
          have S2 : Aside _ := HCUT.out.norot F1.out _ S1.out; clear S1
          have M1 : Aside _ := HCUT.out.noone F2.out; have S3 : Aside _ := S2.out
          go_wp2_with fail
          try rw [HE.out]
          go_at_call 38; refine (HCUT.out.two F3.out.1 F3.out.2 _ _ M1.out S3.out).mono ?_; intro e' w2 hD; obtain ⟨rfl, hD2⟩ := hD; have S4 : Aside _ := hD2; clear hD2 S3
          go_wp2
          go_end0
          exact ⟨rfl, S4.out⟩
        · have T1 : (a : Int) + (s : Int) < (a : Int) + (p : Int) := by omega
          have T2 : (a : Int) + (p : Int) < (a : Int) + (p : Int) + (t : Int) := by omega
          have T3 : (a : Int) < (a : Int) + (s : Int) := by omega
          have T4 : (a : Int) + (s : Int) < (a : Int) + (e : Int) := by omega
          have T5 : (a : Int) + (e : Int) < (a : Int) + (p : Int) + (t : Int) := by omega
          have T6 : (a : Int) + (p : Int) + (t : Int) < (a : Int) + (p : Int) + (q : Int) := by omega
          have F1 : Aside (0 < t ∧ s < p) := by show _ ∧ _; omega
          have F2 : Aside (0 < s ∧ 0 < t) := by show _ ∧ _; omega
          have F3 : Aside (s < p ∧ t < q) := by show _ ∧ _; omega
          have HE : Aside ((a : Int) + (e : Int) = (a : Int) + (s : Int) + (t : Int)) := eE
          clear c hse hs2 htq eE ht
          go_wp2_with fail
          go_at_call 42; refine (HCUT.out.rot F1.out.1 F1.out.2 _ _ S1.out).mono ?_; rintro e' w2 ⟨rfl, hS⟩; have S2 : Aside _ := hS; clear hS S1
          go_wp2_with fail
          try rw [HE.out]
          go_at_call 38; refine (HCUT.out.one F2.out.1 F2.out.2 _ S2.out).mono ?_; rintro e' w2 ⟨rfl, M, hM, hS⟩; have S3 : Aside _ := hS; have M1 : Aside _ := hM; clear hS hM S2
          go_wp2_with fail
          try rw [HE.out]
          go_at_call 38; refine (HCUT.out.two F3.out.1 F3.out.2 _ _ M1.out S3.out).mono ?_; intro e' w2 hD; obtain ⟨rfl, hD2⟩ := hD; have S4 : Aside _ := hD2; clear hD2 S3
          go_wp2
          go_end0
          exact ⟨rfl, S4.out⟩
        · have T1 : (a : Int) + (s : Int) < (a : Int) + (p : Int) := by omega
          have T2 : (a : Int) + (p : Int) < (a : Int) + (p : Int) + (t : Int) := by omega
          have T3 : (a : Int) < (a : Int) + (s : Int) := by omega
          have T4 : (a : Int) + (s : Int) < (a : Int) + (e : Int) := by omega
          have T5 : (a : Int) + (e : Int) < (a : Int) + (p : Int) + (t : Int) := by omega
          have T6 : ¬ (a : Int) + (p : Int) + (t : Int) < (a : Int) + (p : Int) + (q : Int) := by omega
          have F1 : Aside (0 < t ∧ s < p) := by show _ ∧ _; omega
          have F2 : Aside (0 < s ∧ 0 < t) := by show _ ∧ _; omega
          have F3 : Aside (¬ (s < p ∧ t < q)) := by show ¬ _; omega
          have HE : Aside ((a : Int) + (e : Int) = (a : Int) + (s : Int) + (t : Int)) := eE
          clear c hse hs2 htq eE ht
          go_wp2_with fail
          go_at_call 42; refine (HCUT.out.rot F1.out.1 F1.out.2 _ _ S1.out).mono ?_; rintro e' w2 ⟨rfl, hS⟩; have S2 : Aside _ := hS; clear hS S1
          go_wp2_with fail
          try rw [HE.out]
          go_at_call 38; refine (HCUT.out.one F2.out.1 F2.out.2 _ S2.out).mono ?_; rintro e' w2 ⟨rfl, M, hM, hS⟩; have S3 : Aside _ := hS; have M1 : Aside _ := hM; clear hS hM S2
          go_wp2
          go_end0
          exact HCUT.out.notwo F3.out _ _ M1.out S3.out
        · exact absurd hre (by omega)
        · exact absurd hre (by omega)
  · have tm2 : decide (e < p) = false := decide_eq_false (by omega)
    go_enter Try.func38, Try.ntmps38
    go_wp2
    clear w1 w2 t1 t2 t3 t4 t5 t6 wn wp ws eM tm tm2
    go_loopg [20, 21] (p + q) (fun gq s20 s21 wr => ∃ s r : Nat, s20 = .int .i64 ((a : Int) + (s : Int)) ∧ s21 = .int .i64 ((a : Int) + (r : Int)) ∧ s ≤ r ∧ r ≤ e ∧ r ≤ p ∧ e ≤ s + q ∧ r - s ≤ gq ∧ Aside (∀ x ∈ A.take s, ∀ y ∈ B.drop (e - s), pr x y) ∧ Aside (∀ y ∈ B.take (e - r), ∀ x ∈ A.drop r, pr y x) ∧ Aside (At w0 blk (X ++ (A ++ (B ++ Y))).toArray wr))
    case atStart => exact ⟨0, p, by go_num, by go_num, by omega, by omega, by omega, by omega, by omega, (show Aside (∀ x ∈ A.take 0, ∀ y ∈ B.drop (e - 0), pr x y) from fun x h => by cases h), (show Aside (∀ y ∈ B.take _, ∀ x ∈ A.drop p, pr y x) from fun y _ x h => by rw [HA.out, List.drop_length] at h; cases h), S0⟩
    case round =>
      clear S0
      obtain ⟨s, r, rfl, rfl, hsr, hre, hrp, hsq, hg, H1, H2, S1⟩ := hrel
      by_cases hlt : s < r
      · have hltz : (a : Int) + (s : Int) < (a : Int) + (r : Int) := by omega
        obtain ⟨h, hh⟩ : ∃ h : Nat, h = (s + r) / 2 := ⟨_, rfl⟩
        have ih : s ≤ h := by omega
        have jh : h < r := by omega
        have eh : ((a : Int) + (s : Int) + ((a : Int) + (r : Int))) / 2 = (a : Int) + (h : Int) := by omega
        clear hh
        obtain ⟨u, hu⟩ : ∃ u : Nat, e = u + 1 + h := ⟨e - 1 - h, by omega⟩
        have huq : u < q := by omega
        have hB := HB.out
        have hA := HA.out
        have hX := HX.out
        have hNQ : (X ++ (A ++ (B ++ Y))).length = N := HQ.out.len
        have hAh : h < A.length := by omega
        have hBu : u < B.length := by omega
        have dsz : (X ++ (A ++ (B ++ Y))).toArray.size = N := by simpa using hNQ
        have da : (X ++ (A ++ (B ++ Y))).toArray[a + h]! = A[h] := by
          have ee : X ++ (A ++ (B ++ Y)) = (X ++ A.take h) ++ A[h] :: (A.drop (h + 1) ++ (B ++ Y)) := by
            rw [split_app hAh (B ++ Y)]
            simp only [List.append_assoc]
          rw [ee]
          exact get_mid (by simp; omega)
        have db : (X ++ (A ++ (B ++ Y))).toArray[a + p + u]! = B[u] := by
          have ee : X ++ (A ++ (B ++ Y)) = (X ++ (A ++ B.take u)) ++ B[u] :: (B.drop (u + 1) ++ Y) := by
            rw [split_app hBu Y]
            simp only [List.append_assoc]
          rw [ee]
          exact get_mid (by simp; omega)
        have haN' : A[h] < N := HQ.out.all _ (by simp)
        have hbN : B[u] < N := HQ.out.all _ (by simp)
        have hxb : A[h] < B[u] := HQ.out.ab _ (List.getElem_mem _) _ (List.getElem_mem _)
        have hcm := HO.out.cm hxb hbN
        have hto := HO.out.tot haN' hbN (by omega)
        have KT : Aside (pr A[h] B[u] → ∀ x ∈ A.take (h + 1), ∀ y ∈ B.drop (e - (h + 1)), pr x y) := by
          rw [show e - (h + 1) = u by omega]
          exact cross_lo (pr := pr) (fun h1 h2 => HO.out.tr h1 h2) HQ.out.sa HQ.out.sb hAh hBu
        have KD : Aside (pr B[u] A[h] → ∀ y ∈ B.take (e - h), ∀ x ∈ A.drop h, pr y x) := by
          rw [show e - h = u + 1 by omega]
          exact cross_hi (pr := pr) (fun h1 h2 => HO.out.tr h1 h2) HQ.out.sa HQ.out.sb hAh hBu
        obtain ⟨y', b', ey, eb, cy, cb', hc⟩ := cmp_facts (i := a + p + u) (j := a + h) HC.out R dsz S1.out (by omega) (by omega) (by rw [db]; exact hbN) (by rw [da]; exact haN')
        rw [db] at ey
        rw [da] at eb
        rw [← eb, ← ey] at hcm hto KT KD
        have wi : IntKind.i64.wrap ((a : Int) + (e : Int) + ((a : Int) + (p : Int)) - 1 - ((a : Int) + (h : Int))) = (a : Int) + (p : Int) + (u : Int) := by rw [IntKind.wrap_i64]; omega
        have ei : ((a : Int) + (p : Int) + (u : Int)).toNat = a + p + u := by omega
        have ej : ((a : Int) + (h : Int)).toNat = a + h := by omega
        have pi : (0 : Int) ≤ (a : Int) + (p : Int) + (u : Int) := by omega
        have pj : (0 : Int) ≤ (a : Int) + (h : Int) := by omega
        have bi : (a : Int) + (p : Int) + (u : Int) < (N : Int) := by omega
        have bj : (a : Int) + (h : Int) < (N : Int) := by omega
        have hre2 : h ≤ e := by omega
        have hhp : h + 1 ≤ p := by omega
        have hhe : h + 1 ≤ e := by omega
        have hhq : e ≤ h + 1 + q := by omega
        clear hA hB hX hNQ dsz da db haN' hbN hxb ey eb hBu hAh
        have HU : Aside (e = u + 1 + h) := hu
        clear hu
        cases hlv : lt cf y' b' with
        | true =>
          have hv : cf y' b' < 0 := of_decide_eq_true hlv
          have hd : decide (cf y' b' < 0) = true := hlv
          have HT : Aside _ := KD.out (hcm.1 hv)
          clear hcm hto KT KD hlv
          go_wp2_with fail
          try rw [eh]
          go_quiet_grown (first | (go_at_fn g; refine Calls.grown_of (hc _ _)))
          have S2 : Aside (At w0 blk (X ++ (A ++ (B ++ Y))).toArray (grow (wr.drewN nq) osq)) := S1.out.grown nq osq
          clear cb' cy hc S1 eh
          generalize grow (wr.drewN nq) osq = w2 at S2 ⊢
          clear nq osq ei ej wi
          go_wp2
          go_roundg (h - s)
          case measure => omega
          case rel => exact ⟨s, h, rfl, rfl, ih, hre2, by omega, hsq, Nat.le_refl _, H1, HT, S2⟩
        | false =>
          have hv : ¬ cf y' b' < 0 := of_decide_eq_false hlv
          have hd : decide (cf y' b' < 0) = false := hlv
          have HT : Aside _ := KT.out (hto.resolve_right (fun q => hv (hcm.2 q)))
          clear hcm hto KT KD hlv
          go_wp2_with fail
          try rw [eh]
          go_quiet_grown (first | (go_at_fn g; refine Calls.grown_of (hc _ _)))
          have S2 : Aside (At w0 blk (X ++ (A ++ (B ++ Y))).toArray (grow (wr.drewN nq) osq)) := S1.out.grown nq osq
          clear cb' cy hc S1 eh
          generalize grow (wr.drewN nq) osq = w2 at S2 ⊢
          clear nq osq ei ej wi
          go_wp2
          go_roundg (r - (h + 1))
          case measure => omega
          case rel => exact ⟨h + 1, r, by go_num, rfl, by omega, hre, hrp, hhq, Nat.le_refl _, HT, H2, S2⟩
      · have hge : ¬ (a : Int) + (s : Int) < (a : Int) + (r : Int) := by omega
        obtain rfl : s = r := by omega
        obtain ⟨t, ht⟩ : ∃ t : Nat, e = s + t := ⟨e - s, by omega⟩
        have het : e - s = t := by omega
        rw [het] at H1 H2
        have HCUT : Aside (Cut w0 blk cap N g cb pr X A B Y a p q s t) := cut_of w0 blk cap N g cb pr X A B Y a p q s t k R HI.out HQ.out HX.out HA.out HB.out HK.out hrp (by omega) (by omega) (by omega) H1.out H2.out
        clear H1 H2 hlt
        have wE : IntKind.i64.wrap ((a : Int) + (e : Int) + ((a : Int) + (p : Int)) - ((a : Int) + (s : Int))) = (a : Int) + (p : Int) + (t : Int) := by rw [IntKind.wrap_i64]; omega
        have eE : (a : Int) + (e : Int) = (a : Int) + (s : Int) + (t : Int) := by omega
        clear het
        have htq : t ≤ q := by omega
        have hse : 0 < s + t := by omega
        have hs2 : s + t < p + q := by omega
        rcases (show (s = 0 ∧ 0 < t ∧ t < q ∧ s < p) ∨ (s = 0 ∧ 0 < t ∧ t = q ∧ s < p) ∨ (0 < s ∧ s < p ∧ t = 0 ∧ t < q) ∨ (0 < s ∧ s < p ∧ 0 < t ∧ t < q) ∨ (0 < s ∧ s < p ∧ 0 < t ∧ t = q) ∨ (0 < s ∧ s = p ∧ t = 0 ∧ t < q) ∨ (0 < s ∧ s = p ∧ 0 < t ∧ t < q) by omega) with c | c | c | c | c | c | c
        · have T1 : (a : Int) + (s : Int) < (a : Int) + (p : Int) := by omega
          have T2 : (a : Int) + (p : Int) < (a : Int) + (p : Int) + (t : Int) := by omega
          have T3 : ¬ (a : Int) < (a : Int) + (s : Int) := by omega
          have T4 : (a : Int) + (s : Int) < (a : Int) + (e : Int) := by omega
          have T5 : (a : Int) + (e : Int) < (a : Int) + (p : Int) + (t : Int) := by omega
          have T6 : (a : Int) + (p : Int) + (t : Int) < (a : Int) + (p : Int) + (q : Int) := by omega
          have F1 : Aside (0 < t ∧ s < p) := by show _ ∧ _; omega
          have F2 : Aside (¬ (0 < s ∧ 0 < t)) := by show ¬ _; omega
          have F3 : Aside (s < p ∧ t < q) := by show _ ∧ _; omega
          have HE : Aside ((a : Int) + (e : Int) = (a : Int) + (s : Int) + (t : Int)) := eE
          clear c hse hs2 htq eE ht
          go_wp2_with fail
          go_at_call 42; refine (HCUT.out.rot F1.out.1 F1.out.2 _ _ S1.out).mono ?_; rintro e' w2 ⟨rfl, hS⟩; have S2 : Aside _ := hS; clear hS S1
          have M1 : Aside _ := HCUT.out.noone F2.out; have S3 : Aside _ := S2.out
          go_wp2_with fail
          try rw [HE.out]
          go_at_call 38; refine (HCUT.out.two F3.out.1 F3.out.2 _ _ M1.out S3.out).mono ?_; intro e' w2 hD; obtain ⟨rfl, hD2⟩ := hD; have S4 : Aside _ := hD2; clear hD2 S3
          go_wp2
          go_end0
          exact ⟨rfl, S4.out⟩
        · have T1 : (a : Int) + (s : Int) < (a : Int) + (p : Int) := by omega
          have T2 : (a : Int) + (p : Int) < (a : Int) + (p : Int) + (t : Int) := by omega
          have T3 : ¬ (a : Int) < (a : Int) + (s : Int) := by omega
          have T4 : (a : Int) + (s : Int) < (a : Int) + (e : Int) := by omega
          have T5 : (a : Int) + (e : Int) < (a : Int) + (p : Int) + (t : Int) := by omega
          have T6 : ¬ (a : Int) + (p : Int) + (t : Int) < (a : Int) + (p : Int) + (q : Int) := by omega
          have F1 : Aside (0 < t ∧ s < p) := by show _ ∧ _; omega
          have F2 : Aside (¬ (0 < s ∧ 0 < t)) := by show ¬ _; omega
          have F3 : Aside (¬ (s < p ∧ t < q)) := by show ¬ _; omega
          have HE : Aside ((a : Int) + (e : Int) = (a : Int) + (s : Int) + (t : Int)) := eE
          clear c hse hs2 htq eE ht
          go_wp2_with fail
          go_at_call 42; refine (HCUT.out.rot F1.out.1 F1.out.2 _ _ S1.out).mono ?_; rintro e' w2 ⟨rfl, hS⟩; have S2 : Aside _ := hS; clear hS S1
          have M1 : Aside _ := HCUT.out.noone F2.out; have S3 : Aside _ := S2.out
          go_wp2
          go_end0
          exact HCUT.out.notwo F3.out _ _ M1.out S3.out
        · have T1 : (a : Int) + (s : Int) < (a : Int) + (p : Int) := by omega
          have T2 : ¬ (a : Int) + (p : Int) < (a : Int) + (p : Int) + (t : Int) := by omega
          have T3 : (a : Int) < (a : Int) + (s : Int) := by omega
          have T4 : ¬ (a : Int) + (s : Int) < (a : Int) + (e : Int) := by omega
          have T5 : (a : Int) + (e : Int) < (a : Int) + (p : Int) + (t : Int) := by omega
          have T6 : (a : Int) + (p : Int) + (t : Int) < (a : Int) + (p : Int) + (q : Int) := by omega
          have F1 : Aside (¬ (0 < t ∧ s < p)) := by show ¬ _; omega
          have F2 : Aside (¬ (0 < s ∧ 0 < t)) := by show ¬ _; omega
          have F3 : Aside (s < p ∧ t < q) := by show _ ∧ _; omega
          have HE : Aside ((a : Int) + (e : Int) = (a : Int) + (s : Int) + (t : Int)) := eE
          clear c hse hs2 htq eE ht
          have S2 : Aside _ := HCUT.out.norot F1.out _ S1.out; clear S1
          have M1 : Aside _ := HCUT.out.noone F2.out; have S3 : Aside _ := S2.out
          go_wp2_with fail
          try rw [HE.out]
          go_at_call 38; refine (HCUT.out.two F3.out.1 F3.out.2 _ _ M1.out S3.out).mono ?_; intro e' w2 hD; obtain ⟨rfl, hD2⟩ := hD; have S4 : Aside _ := hD2; clear hD2 S3
          go_wp2
          go_end0
          exact ⟨rfl, S4.out⟩
        · have T1 : (a : Int) + (s : Int) < (a : Int) + (p : Int) := by omega
          have T2 : (a : Int) + (p : Int) < (a : Int) + (p : Int) + (t : Int) := by omega
          have T3 : (a : Int) < (a : Int) + (s : Int) := by omega
          have T4 : (a : Int) + (s : Int) < (a : Int) + (e : Int) := by omega
          have T5 : (a : Int) + (e : Int) < (a : Int) + (p : Int) + (t : Int) := by omega
          have T6 : (a : Int) + (p : Int) + (t : Int) < (a : Int) + (p : Int) + (q : Int) := by omega
          have F1 : Aside (0 < t ∧ s < p) := by show _ ∧ _; omega
          have F2 : Aside (0 < s ∧ 0 < t) := by show _ ∧ _; omega
          have F3 : Aside (s < p ∧ t < q) := by show _ ∧ _; omega
          have HE : Aside ((a : Int) + (e : Int) = (a : Int) + (s : Int) + (t : Int)) := eE
          clear c hse hs2 htq eE ht
          go_wp2_with fail
          go_at_call 42; refine (HCUT.out.rot F1.out.1 F1.out.2 _ _ S1.out).mono ?_; rintro e' w2 ⟨rfl, hS⟩; have S2 : Aside _ := hS; clear hS S1
          go_wp2_with fail
          try rw [HE.out]
          go_at_call 38; refine (HCUT.out.one F2.out.1 F2.out.2 _ S2.out).mono ?_; rintro e' w2 ⟨rfl, M, hM, hS⟩; have S3 : Aside _ := hS; have M1 : Aside _ := hM; clear hS hM S2
          go_wp2_with fail
          try rw [HE.out]
          go_at_call 38; refine (HCUT.out.two F3.out.1 F3.out.2 _ _ M1.out S3.out).mono ?_; intro e' w2 hD; obtain ⟨rfl, hD2⟩ := hD; have S4 : Aside _ := hD2; clear hD2 S3
          go_wp2
          go_end0
          exact ⟨rfl, S4.out⟩
        · have T1 : (a : Int) + (s : Int) < (a : Int) + (p : Int) := by omega
          have T2 : (a : Int) + (p : Int) < (a : Int) + (p : Int) + (t : Int) := by omega
          have T3 : (a : Int) < (a : Int) + (s : Int) := by omega
          have T4 : (a : Int) + (s : Int) < (a : Int) + (e : Int) := by omega
          have T5 : (a : Int) + (e : Int) < (a : Int) + (p : Int) + (t : Int) := by omega
          have T6 : ¬ (a : Int) + (p : Int) + (t : Int) < (a : Int) + (p : Int) + (q : Int) := by omega
          have F1 : Aside (0 < t ∧ s < p) := by show _ ∧ _; omega
          have F2 : Aside (0 < s ∧ 0 < t) := by show _ ∧ _; omega
          have F3 : Aside (¬ (s < p ∧ t < q)) := by show ¬ _; omega
          have HE : Aside ((a : Int) + (e : Int) = (a : Int) + (s : Int) + (t : Int)) := eE
          clear c hse hs2 htq eE ht
          go_wp2_with fail
          go_at_call 42; refine (HCUT.out.rot F1.out.1 F1.out.2 _ _ S1.out).mono ?_; rintro e' w2 ⟨rfl, hS⟩; have S2 : Aside _ := hS; clear hS S1
          go_wp2_with fail
          try rw [HE.out]
          go_at_call 38; refine (HCUT.out.one F2.out.1 F2.out.2 _ S2.out).mono ?_; rintro e' w2 ⟨rfl, M, hM, hS⟩; have S3 : Aside _ := hS; have M1 : Aside _ := hM; clear hS hM S2
          go_wp2
          go_end0
          exact HCUT.out.notwo F3.out _ _ M1.out S3.out
        · have T1 : ¬ (a : Int) + (s : Int) < (a : Int) + (p : Int) := by omega
          have T2 : ¬ (a : Int) + (p : Int) < (a : Int) + (p : Int) + (t : Int) := by omega
          have T3 : (a : Int) < (a : Int) + (s : Int) := by omega
          have T4 : ¬ (a : Int) + (s : Int) < (a : Int) + (e : Int) := by omega
          have T5 : ¬ (a : Int) + (e : Int) < (a : Int) + (p : Int) + (t : Int) := by omega
          have T6 : (a : Int) + (p : Int) + (t : Int) < (a : Int) + (p : Int) + (q : Int) := by omega
          have F1 : Aside (¬ (0 < t ∧ s < p)) := by show ¬ _; omega
          have F2 : Aside (¬ (0 < s ∧ 0 < t)) := by show ¬ _; omega
          have F3 : Aside (¬ (s < p ∧ t < q)) := by show ¬ _; omega
          have HE : Aside ((a : Int) + (e : Int) = (a : Int) + (s : Int) + (t : Int)) := eE
          clear c hse hs2 htq eE ht
          have S2 : Aside _ := HCUT.out.norot F1.out _ S1.out; clear S1
          have M1 : Aside _ := HCUT.out.noone F2.out; have S3 : Aside _ := S2.out
          go_wp2
          go_end0
          exact HCUT.out.notwo F3.out _ _ M1.out S3.out
        · have T1 : ¬ (a : Int) + (s : Int) < (a : Int) + (p : Int) := by omega
          have T2 : (a : Int) + (p : Int) < (a : Int) + (p : Int) + (t : Int) := by omega
          have T3 : (a : Int) < (a : Int) + (s : Int) := by omega
          have T4 : (a : Int) + (s : Int) < (a : Int) + (e : Int) := by omega
          have T5 : ¬ (a : Int) + (e : Int) < (a : Int) + (p : Int) + (t : Int) := by omega
          have T6 : (a : Int) + (p : Int) + (t : Int) < (a : Int) + (p : Int) + (q : Int) := by omega
          have F1 : Aside (¬ (0 < t ∧ s < p)) := by show ¬ _; omega
          have F2 : Aside (0 < s ∧ 0 < t) := by show _ ∧ _; omega
          have F3 : Aside (¬ (s < p ∧ t < q)) := by show ¬ _; omega
          have HE : Aside ((a : Int) + (e : Int) = (a : Int) + (s : Int) + (t : Int)) := eE
          clear c hse hs2 htq eE ht
          have S2 : Aside _ := HCUT.out.norot F1.out _ S1.out; clear S1
          go_wp2_with fail
          try rw [HE.out]
          go_at_call 38; refine (HCUT.out.one F2.out.1 F2.out.2 _ S2.out).mono ?_; rintro e' w2 ⟨rfl, M, hM, hS⟩; have S3 : Aside _ := hS; have M1 : Aside _ := hM; clear hS hM S2
          go_wp2
          go_end0
          exact HCUT.out.notwo F3.out _ _ M1.out S3.out
end Go.Proofs.Ytekbeaogiagidaa.So
