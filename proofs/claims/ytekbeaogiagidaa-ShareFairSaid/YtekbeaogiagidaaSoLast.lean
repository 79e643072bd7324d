/- symMerge where the second part is one number, walked. -/
import Derived.Test.YtekbeaogiagidaaSoOne
namespace Go.Proofs.Ytekbeaogiagidaa.So
set_option linter.unusedVariables false
set_option linter.unusedSimpArgs false
open Go.Shelf Go.RowKit Go.Lib Go.Sort
set_option maxHeartbeats 16000000 in
set_option maxRecDepth 1000000 in
theorem last_calls (w0 w : World) (blk cap N g : Nat) (cb : Array Value) (cf : Nat → Nat → Int) (pr : Nat → Nat → Prop) (X A Y : List Nat) (y : Nat) (z1 z2 z3 : Int) (R : Row w0 blk N) (eg : ∀ args w, (callFunc g args).run Try.prog w = .ok (.enter g args) w) (C : CmpOk g cb cf w0 blk N) (O : Ord cf N pr) (Q : Parts pr N X A [y] Y)
    (hw : At w0 blk (X ++ (A ++ ([y] ++ Y))).toArray w) (h1 : z1 = (X.length : Int)) (h2 : z2 = (X.length : Int) + A.length) (h3 : z3 = (X.length : Int) + A.length + 1) (hA2 : A.length ≠ 1) :
    Calls Try.prog 38 #[.slice (some ⟨blk, 0, none⟩) N cap, .int .i64 z1, .int .i64 z2, .int .i64 z3, .func (.func g) #[] cb] w (Done pr w0 blk X A [y] Y) := by
  have hfew := R.few
  have hN := Q.len
  simp only [List.length_append, List.length_cons, List.length_nil] at hN
  obtain ⟨a, ha⟩ : ∃ a, a = X.length := ⟨_, rfl⟩
  obtain ⟨n, hn⟩ : ∃ n, n = A.length := ⟨_, rfl⟩
  rw [← ha] at h1 h2 h3 hN
  rw [← hn] at h2 h3 hN hA2
  subst h1
  subst h2
  subst h3
  have S0 : Aside (At w0 blk (X ++ (A ++ ([y] ++ Y))).toArray w) := hw
  have HC : Aside _ := C
  have HO : Aside _ := O
  have HQ : Aside _ := Q
  have HA : Aside (a = X.length) := ha
  have HB : Aside (n = A.length) := hn
  have haN : a + n + 1 ≤ N := by omega
  have mixed : Try.prog.follows .mixedOrders = true := by kernel_rfl
  have w1 : IntKind.i64.wrap ((a : Int) + (n : Int) - (a : Int)) = (n : Int) := by rw [IntKind.wrap_i64]; omega
  have w2 : IntKind.i64.wrap ((a : Int) + (n : Int) + 1 - ((a : Int) + (n : Int))) = 1 := by rw [IntKind.wrap_i64]; omega
  have t1 : ((n : Int) == 1) = false := by rw [beq_eq_false_iff_ne]; omega
  have t2 : ¬ (n : Int) = 1 := by omega
  have t3 : ¬ n = 1 := hA2
  clear C O Q hw ha hn hN hA2
  go_enter Try.func38, Try.ntmps38
  go_wp2
  clear w1 w2 t1 t2
  go_loopg [14, 15] n (fun gq s14 s15 wr => ∃ i j : Nat, s14 = .int .i64 ((a : Int) + (i : Int)) ∧ s15 = .int .i64 ((a : Int) + (j : Int)) ∧ i ≤ j ∧ j ≤ n ∧ j - i ≤ gq ∧ Aside (∀ z ∈ A.take i, pr z y) ∧ Aside (∀ z ∈ A.drop j, pr y z) ∧ Aside (At w0 blk (X ++ (A ++ ([y] ++ Y))).toArray wr))
  case atStart => exact ⟨0, n, by go_num, by go_num, Nat.zero_le _, Nat.le_refl _, Nat.le_refl _, (show Aside (∀ z ∈ A.take 0, pr z y) from fun z hz => by simp at hz), (show Aside (∀ z ∈ A.drop n, pr y z) from fun z hz => by rw [HB.out, List.drop_length] at hz; cases hz), S0⟩
  case round =>
    clear S0
    obtain ⟨i, j, rfl, rfl, hij, hj, hg, H1, H2, S1⟩ := hrel
    by_cases hlt : i < j
    · have hltz : (a : Int) + (i : Int) < (a : Int) + (j : Int) := by omega
      obtain ⟨h, hh⟩ : ∃ h : Nat, h = (i + j) / 2 := ⟨_, rfl⟩
      have ih : i ≤ h := by omega
      have jh : h < j := by omega
      have eh : ((a : Int) + (i : Int) + ((a : Int) + (j : Int))) / 2 = (a : Int) + (h : Int) := by omega
      clear hh
      have hB := HB.out
      have hA := HA.out
      have hNQ : (X ++ (A ++ ([y] ++ Y))).length = N := HQ.out.len
      have hBh : h < A.length := by omega
      have dsz : (X ++ (A ++ ([y] ++ Y))).toArray.size = N := by simpa using hNQ
      have dy : (X ++ (A ++ ([y] ++ Y))).toArray[a + n]! = y := by
        rw [show X ++ (A ++ ([y] ++ Y)) = (X ++ A) ++ y :: Y by simp]
        exact get_mid (by simp; omega)
      have db : (X ++ (A ++ ([y] ++ Y))).toArray[a + h]! = A[h] := by
        have e : X ++ (A ++ ([y] ++ Y)) = (X ++ A.take h) ++ A[h] :: (A.drop (h + 1) ++ ([y] ++ Y)) := by
          rw [show A ++ ([y] ++ Y) = A.take h ++ (A[h] :: (A.drop (h + 1) ++ ([y] ++ Y))) from split_app hBh ([y] ++ Y)]
          simp only [List.append_assoc, List.cons_append, List.nil_append]
        rw [e]
        exact get_mid (by simp; omega)
      have hyN : y < N := HQ.out.all y (by simp)
      have hbN : A[h] < N := HQ.out.all _ (by simp)
      have hxb : A[h] < y := HQ.out.ab _ (List.getElem_mem _) y (by simp)
      have hcm := HO.out.cm hxb hyN
      have hto := HO.out.tot hbN hyN (by omega)
      have KT : Aside (pr A[h] y → ∀ z ∈ A.take (h + 1), pr z y) := take_pr (pr := pr) (fun h1 h2 => HO.out.tr h1 h2) HQ.out.sa hBh
      have KD : Aside (pr y A[h] → ∀ z ∈ A.drop h, pr y z) := drop_pr (pr := pr) (fun h1 h2 => HO.out.tr h1 h2) HQ.out.sa hBh
      obtain ⟨y', b', ey, eb, cy, cb', hc⟩ := cmp_facts (i := a + n) (j := a + h) HC.out R dsz S1.out (by omega) (by omega) (by rw [dy]; exact hyN) (by rw [db]; exact hbN)
      rw [db] at eb
      rw [dy] at ey
      subst ey
      rw [← eb] at hcm hto KT KD
      have ei : ((a : Int) + (h : Int)).toNat = a + h := by omega
      have en' : ((a : Int) + (n : Int)).toNat = a + n := by omega
      have pi : (0 : Int) ≤ (a : Int) + (h : Int) := by omega
      have pn : (0 : Int) ≤ (a : Int) + (n : Int) := by omega
      have bi : (a : Int) + (h : Int) < (N : Int) := by omega
      have bn : (a : Int) + (n : Int) < (N : Int) := by omega
      have wi : IntKind.i64.wrap ((a : Int) + (h : Int)) = (a : Int) + (h : Int) := by rw [IntKind.wrap_i64]; omega
      have wn : IntKind.i64.wrap ((a : Int) + (n : Int)) = (a : Int) + (n : Int) := by rw [IntKind.wrap_i64]; omega
      clear hA hB hNQ dsz dy db hyN hbN hxb eb hBh
      cases hlv : lt cf y' b' with
      | true =>
        have hv : cf y' b' < 0 := of_decide_eq_true hlv
        have hd : decide (cf y' b' < 0) = true := hlv
        have HT : Aside _ := KD.out (hcm.1 hv)
        clear hcm hto KT KD hlv
        go_wp2_with fail
        try rw [eh]
        go_quiet_grown (first | (go_at_fn g; refine Calls.grown_of (hc _ _)))
        have S2 : Aside (At w0 blk (X ++ (A ++ ([y'] ++ Y))).toArray (grow (wr.drewN nq) osq)) := S1.out.grown nq osq
        clear cb' cy hc S1 eh
        generalize grow (wr.drewN nq) osq = w2 at S2 ⊢
        clear nq osq ei en' wi wn
        go_wp2
        go_roundg (h - i)
        case measure => omega
        case rel => exact ⟨i, h, rfl, rfl, ih, by omega, Nat.le_refl _, H1, HT, S2⟩
      | false =>
        have hv : ¬ cf y' b' < 0 := of_decide_eq_false hlv
        have hd : decide (cf y' b' < 0) = false := hlv
        have HT : Aside _ := KT.out (hto.resolve_right (fun q => hv (hcm.2 q)))
        clear hcm hto KT KD hlv
        go_wp2_with fail
        try rw [eh]
        go_quiet_grown (first | (go_at_fn g; refine Calls.grown_of (hc _ _)))
        have S2 : Aside (At w0 blk (X ++ (A ++ ([y'] ++ Y))).toArray (grow (wr.drewN nq) osq)) := S1.out.grown nq osq
        clear cb' cy hc S1 eh
        generalize grow (wr.drewN nq) osq = w2 at S2 ⊢
        clear nq osq ei en' wi wn
        go_wp2
        go_roundg (j - (h + 1))
        case measure => omega
        case rel => exact ⟨h + 1, j, by go_num, rfl, by omega, hj, Nat.le_refl _, HT, H2, S2⟩
    · have hge : ¬ (a : Int) + (i : Int) < (a : Int) + (j : Int) := by omega
      obtain rfl : i = j := by omega
      have hB := HB.out
      have HM : Aside (Mg pr A [y] (A.take i ++ y :: A.drop i)) := by
        constructor
        · have h1 : (A.take i ++ y :: A.drop i).Perm (y :: (A.take i ++ A.drop i)) := List.perm_middle
          rw [List.take_append_drop] at h1
          exact h1.trans (List.perm_append_singleton y A).symm
        · have sb := HQ.out.sa
          rw [← List.take_append_drop i A, List.pairwise_append] at sb
          rw [List.pairwise_append]
          refine ⟨sb.1, List.Pairwise.cons H2.out sb.2.1, fun x hx z hz => ?_⟩
          rcases List.mem_cons.1 hz with rfl | hz
          · exact H1.out x hx
          · exact sb.2.2 x hx z hz
      have S2 : Aside (At w0 blk (X ++ (A.take n ++ (y :: (A.drop n ++ Y)))).toArray wr) := by
        show At _ _ _ _
        have h := S1.out
        rw [hB, List.take_length, List.drop_length]
        exact h
      clear S1 H1 H2
      go_wp2
      go_loopg [17] n (fun gq s17 wr => ∃ q : Nat, s17 = .int .i64 ((a : Int) + (q : Int)) ∧ i ≤ q ∧ q ≤ n ∧ q ≤ gq ∧ Aside (At w0 blk (X ++ (A.take q ++ (y :: (A.drop q ++ Y)))).toArray wr))
      case atStart => exact ⟨n, by go_num, hj, Nat.le_refl _, Nat.le_refl _, S2⟩
      case round =>
        clear S2
        obtain ⟨q, rfl, hiq, hq, hg, S1⟩ := hrel
        by_cases hlt2 : i < q
        · obtain ⟨c, rfl⟩ : ∃ c, q = c + 1 := ⟨q - 1, by omega⟩
          have hBq : c < A.length := by omega
          have hNQ : (X ++ (A ++ ([y] ++ Y))).length = N := HQ.out.len
          have hA := HA.out
          have hdq := List.drop_eq_getElem_cons hBq
          have htq : A.take (c + 1) = A.take c ++ [A[c]] := List.take_succ_eq_append_getElem hBq
          have dsz : (X ++ (A.take (c + 1) ++ (y :: (A.drop (c + 1) ++ Y)))).toArray.size = N := by
            simp only [List.size_toArray, List.length_append, List.length_cons, List.length_take, List.length_drop, List.length_nil] at hNQ ⊢
            omega
          have hsw : swp (X ++ (A.take (c + 1) ++ (y :: (A.drop (c + 1) ++ Y)))).toArray (a + c + 1) (a + c) = (X ++ (A.take c ++ (y :: (A.drop c ++ Y)))).toArray := by
            have h3 := swp_list' (X ++ A.take c) [] (A.drop (c + 1) ++ Y) A[c] y (i := a + c) (j := a + c + 1) (by simp; omega) (by simp; omega)
            rw [hdq, htq]
            simp only [List.append_assoc, List.cons_append, List.nil_append] at h3 ⊢
            exact h3
          obtain ⟨x2, y2, ex2, ey2, sx, sy, fx, fy, ⟨u, cu⟩, S3⟩ := swap_facts (i := a + c + 1) (j := a + c) R dsz S1.out (by omega) (by omega)
          rw [hsw] at S3
          have S4 : Aside _ := S3
          rw [show (a : Int) + ((c + 1 : Nat) : Int) = (a : Int) + (c : Int) + 1 by omega]
          have hl1 : decide ((a : Int) + (c : Int) + 1 > (a : Int) + (i : Int)) = true := decide_eq_true (by omega)
          have hl2 : (a : Int) + (i : Int) < (a : Int) + (c : Int) + 1 := of_decide_eq_true hl1
          have ei : ((a : Int) + (c : Int)).toNat = a + c := by omega
          have ej : ((a : Int) + (c : Int) + 1).toNat = a + c + 1 := by omega
          have pi : (0 : Int) ≤ (a : Int) + (c : Int) := by omega
          have pj : (0 : Int) ≤ (a : Int) + (c : Int) + 1 := by omega
          have bi : (a : Int) + (c : Int) < (N : Int) := by omega
          have bj : (a : Int) + (c : Int) + 1 < (N : Int) := by omega
          have wi : IntKind.i64.wrap ((a : Int) + (c : Int)) = (a : Int) + (c : Int) := by rw [IntKind.wrap_i64]; omega
          have wj : IntKind.i64.wrap ((a : Int) + (c : Int) + 1) = (a : Int) + (c : Int) + 1 := by rw [IntKind.wrap_i64]; omega
          clear S3 S1 hsw hdq htq dsz hA hNQ ex2 ey2 hB
          go_wp2_with fail
          go_big_region
          clear sx sy fx fy cu
          generalize ((wr.setCell ⟨blk, a + c + 1, none⟩ (.int .i64 (y2 : Int))).setCell ⟨blk, a + c, none⟩ (.int .i64 (x2 : Int))).drew = w3 at S4 ⊢
          clear ei ej wj
          go_wp2
          go_roundg c
          case measure => omega
          case rel => exact ⟨c, by first | rfl | go_num, by omega, by omega, Nat.le_refl _, S4⟩
        · obtain rfl : q = i := by omega
          have hge2 : decide ((a : Int) + (q : Int) > (a : Int) + (q : Int)) = false := decide_eq_false (by omega)
          clear hB
          go_wp2
          go_end0
          exact ⟨rfl, _, HM.out, by have h := S1.out; simp only [List.append_assoc, List.cons_append] at h ⊢; exact h⟩
end Go.Proofs.Ytekbeaogiagidaa.So
