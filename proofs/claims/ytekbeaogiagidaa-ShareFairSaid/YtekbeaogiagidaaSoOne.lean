/- symMerge where the first part is one number, walked. -/
import Derived.Test.YtekbeaogiagidaaSoIns
import Derived.Test.YtekbeaogiagidaaSoRot
namespace Go.Proofs.Ytekbeaogiagidaa.So
set_option linter.unusedVariables false
set_option linter.unusedSimpArgs false
open Go.Shelf Go.RowKit Go.Lib Go.Sort
/-- What is known of the comparison: pr is a strict order of all numbers below N, and tells how a later number stands to an earlier one. -/
structure Ord (cf : Nat → Nat → Int) (N : Nat) (pr : Nat → Nat → Prop) : Prop where
  tr : ∀ {x y z}, pr x y → pr y z → pr x z
  asy : ∀ {x y}, pr x y → ¬ pr y x
  tot : ∀ {x y}, x < N → y < N → x ≠ y → pr x y ∨ pr y x
  cm : ∀ {x y}, x < y → y < N → (cf y x < 0 ↔ pr y x)
structure Parts (pr : Nat → Nat → Prop) (N : Nat) (X A B Y : List Nat) : Prop where
  len : (X ++ (A ++ (B ++ Y))).length = N
  all : ∀ z ∈ X ++ (A ++ (B ++ Y)), z < N
  sa : A.Pairwise pr
  sb : B.Pairwise pr
  ab : ∀ x ∈ A, ∀ y ∈ B, x < y
def Mg (pr : Nat → Nat → Prop) (A B M : List Nat) : Prop := M.Perm (A ++ B) ∧ M.Pairwise pr
def Done (pr : Nat → Nat → Prop) (w0 : World) (blk : Nat) (X A B Y : List Nat) (e : Ending) (W : World) : Prop := e = .returned (.tuple #[]) ∧ ∃ M, Mg pr A B M ∧ At w0 blk (X ++ (M ++ Y)).toArray W
theorem split_app {B : List Nat} {h : Nat} (hh : h < B.length) (Y : List Nat) : B ++ Y = B.take h ++ (B[h] :: (B.drop (h + 1) ++ Y)) := by
  have hs : B.take h ++ B[h] :: B.drop (h + 1) = B := by rw [← List.drop_eq_getElem_cons hh, List.take_append_drop]
  have h2 := congrArg (fun l => l ++ Y) hs
  simp only [List.append_assoc, List.cons_append] at h2
  exact h2.symm
theorem take_pr {pr : Nat → Nat → Prop} (tr : ∀ {x y z}, pr x y → pr y z → pr x z) {B : List Nat} (sb : B.Pairwise pr) {h : Nat} (hh : h < B.length) {x : Nat} (hx : pr B[h] x) : ∀ z ∈ B.take (h + 1), pr z x := by
  intro z hz
  obtain ⟨k, hk, rfl⟩ := List.mem_iff_getElem.1 hz
  rw [List.length_take] at hk
  rw [List.getElem_take]
  rcases Nat.lt_or_ge k h with h1 | h1
  · exact tr (List.pairwise_iff_getElem.1 sb k h (by omega) hh h1) hx
  · have : k = h := by omega
    subst this
    exact hx
theorem drop_pr {pr : Nat → Nat → Prop} (tr : ∀ {x y z}, pr x y → pr y z → pr x z) {B : List Nat} (sb : B.Pairwise pr) {h : Nat} (hh : h < B.length) {x : Nat} (hx : pr x B[h]) : ∀ z ∈ B.drop h, pr x z := by
  intro z hz
  obtain ⟨k, hk, rfl⟩ := List.mem_iff_getElem.1 hz
  rw [List.length_drop] at hk
  rw [List.getElem_drop]
  rcases Nat.eq_zero_or_pos k with h1 | h1
  · subst h1
    exact hx
  · exact tr hx (List.pairwise_iff_getElem.1 sb h (h + k) hh (by omega) (by omega))
set_option maxHeartbeats 16000000 in
set_option maxRecDepth 1000000 in
theorem one_calls (w0 w : World) (blk cap N g : Nat) (cb : Array Value) (cf : Nat → Nat → Int) (pr : Nat → Nat → Prop) (X B Y : List Nat) (x : Nat) (z1 z2 z3 : Int) (R : Row w0 blk N) (eg : ∀ args w, (callFunc g args).run Try.prog w = .ok (.enter g args) w) (C : CmpOk g cb cf w0 blk N) (O : Ord cf N pr) (Q : Parts pr N X [x] B Y)
    (hw : At w0 blk (X ++ ([x] ++ (B ++ Y))).toArray w) (h1 : z1 = (X.length : Int)) (h2 : z2 = (X.length : Int) + 1) (h3 : z3 = (X.length : Int) + 1 + B.length) :
    Calls Try.prog 38 #[.slice (some ⟨blk, 0, none⟩) N cap, .int .i64 z1, .int .i64 z2, .int .i64 z3, .func (.func g) #[] cb] w (Done pr w0 blk X [x] B Y) := by
  have hfew := R.few
  have hN := Q.len
  simp only [List.length_append, List.length_cons, List.length_nil] at hN
  obtain ⟨a, ha⟩ : ∃ a, a = X.length := ⟨_, rfl⟩
  obtain ⟨n, hn⟩ : ∃ n, n = B.length := ⟨_, rfl⟩
  rw [← ha] at h1 h2 h3 hN
  rw [← hn] at h3 hN
  subst h1
  subst h2
  subst h3
  have S0 : Aside (At w0 blk (X ++ ([x] ++ (B ++ Y))).toArray w) := hw
  have HC : Aside _ := C
  have HO : Aside _ := O
  have HQ : Aside _ := Q
  have HA : Aside (a = X.length) := ha
  have HB : Aside (n = B.length) := hn
  have haN : a + 1 + n ≤ N := by omega
  have mixed : Try.prog.follows .mixedOrders = true := by kernel_rfl
  have w1 : IntKind.i64.wrap ((a : Int) + 1 - (a : Int)) = 1 := by rw [IntKind.wrap_i64]; omega
  clear C O Q hw ha hn hN
  go_enter Try.func38, Try.ntmps38
  go_wp2
  go_loopg [10, 11] n (fun gq s10 s11 wr => ∃ i j : Nat, s10 = .int .i64 ((a : Int) + 1 + (i : Int)) ∧ s11 = .int .i64 ((a : Int) + 1 + (j : Int)) ∧ i ≤ j ∧ j ≤ n ∧ j - i ≤ gq ∧ Aside (∀ z ∈ B.take i, pr z x) ∧ Aside (∀ z ∈ B.drop j, pr x z) ∧ Aside (At w0 blk (X ++ ([x] ++ (B ++ Y))).toArray wr))
  case atStart => exact ⟨0, n, by go_num, by go_num, Nat.zero_le _, Nat.le_refl _, Nat.le_refl _, (show Aside (∀ z ∈ B.take 0, pr z x) from fun z hz => by simp at hz), (show Aside (∀ z ∈ B.drop n, pr x z) from fun z hz => by rw [HB.out, List.drop_length] at hz; cases hz), S0⟩
  case round =>
    clear S0
    obtain ⟨i, j, rfl, rfl, hij, hj, hg, H1, H2, S1⟩ := hrel
    by_cases hlt : i < j
    · have hltz : (a : Int) + 1 + (i : Int) < (a : Int) + 1 + (j : Int) := by omega
      obtain ⟨h, hh⟩ : ∃ h : Nat, h = (i + j) / 2 := ⟨_, rfl⟩
      have ih : i ≤ h := by omega
      have jh : h < j := by omega
      have eh : ((a : Int) + 1 + (i : Int) + ((a : Int) + 1 + (j : Int))) / 2 = (a : Int) + 1 + (h : Int) := by omega
      clear hh
      have hB := HB.out
      have hA := HA.out
      have hNQ : (X ++ ([x] ++ (B ++ Y))).length = N := HQ.out.len
      have hBh : h < B.length := by omega
      have dsz : (X ++ ([x] ++ (B ++ Y))).toArray.size = N := by simpa using hNQ
      have dx : (X ++ ([x] ++ (B ++ Y))).toArray[a]! = x := get_mid (by omega)
      have db : (X ++ ([x] ++ (B ++ Y))).toArray[a + 1 + h]! = B[h] := by
        have e : X ++ ([x] ++ (B ++ Y)) = (X ++ x :: B.take h) ++ B[h] :: (B.drop (h + 1) ++ Y) := by
          rw [show B ++ Y = B.take h ++ (B[h] :: (B.drop (h + 1) ++ Y)) from split_app hBh Y]
          simp only [List.append_assoc, List.cons_append, List.nil_append]
        rw [e]
        exact get_mid (by simp; omega)
      have hxN : x < N := HQ.out.all x (by simp)
      have hbN : B[h] < N := HQ.out.all _ (by simp)
      have hxb : x < B[h] := HQ.out.ab x (by simp) _ (List.getElem_mem _)
      have hcm := HO.out.cm hxb hbN
      have hto := HO.out.tot hxN hbN (by omega)
      have KT : Aside (pr B[h] x → ∀ z ∈ B.take (h + 1), pr z x) := take_pr (pr := pr) (fun h1 h2 => HO.out.tr h1 h2) HQ.out.sb hBh
      have KD : Aside (pr x B[h] → ∀ z ∈ B.drop h, pr x z) := drop_pr (pr := pr) (fun h1 h2 => HO.out.tr h1 h2) HQ.out.sb hBh
      obtain ⟨b', x', eb, ex, cb', cx, hc⟩ := cmp_facts (i := a + 1 + h) (j := a) HC.out R dsz S1.out (by omega) (by omega) (by rw [db]; exact hbN) (by rw [dx]; exact hxN)
      rw [db] at eb
      rw [dx] at ex
      subst ex
      rw [← eb] at hcm hto KT KD
      have ei : ((a : Int) + 1 + (h : Int)).toNat = a + 1 + h := by omega
      have pi : (0 : Int) ≤ (a : Int) + 1 + (h : Int) := by omega
      have bi : (a : Int) + 1 + (h : Int) < (N : Int) := by omega
      have bj : (a : Int) < (N : Int) := by omega
      have wi : IntKind.i64.wrap ((a : Int) + 1 + (h : Int)) = (a : Int) + 1 + (h : Int) := by rw [IntKind.wrap_i64]; omega
      clear hA hB hNQ dsz dx db hxN hbN hxb eb hBh
      cases hlv : lt cf b' x' with
      | true =>
        have hv : cf b' x' < 0 := of_decide_eq_true hlv
        have hd : decide (cf b' x' < 0) = true := hlv
        have HT : Aside _ := KT.out (hcm.1 hv)
        clear hcm hto KT KD hlv
        go_wp2_with fail
        try rw [eh]
        go_quiet_grown (first | (go_at_fn g; refine Calls.grown_of (hc _ _)))
        have S2 : Aside (At w0 blk (X ++ ([x'] ++ (B ++ Y))).toArray (grow (wr.drewN nq) osq)) := S1.out.grown nq osq
        clear cb' cx hc S1 eh
        generalize grow (wr.drewN nq) osq = w2 at S2 ⊢
        clear nq osq ei wi
        go_wp2
        go_roundg (j - (h + 1))
        case measure => omega
        case rel => exact ⟨h + 1, j, by go_num, rfl, by omega, hj, Nat.le_refl _, HT, H2, S2⟩
      | false =>
        have hv : ¬ cf b' x' < 0 := of_decide_eq_false hlv
        have hd : decide (cf b' x' < 0) = false := hlv
        have HT : Aside _ := KD.out (hto.resolve_right (fun q => hv (hcm.2 q)))
        clear hcm hto KT KD hlv
        go_wp2_with fail
        try rw [eh]
        go_quiet_grown (first | (go_at_fn g; refine Calls.grown_of (hc _ _)))
        have S2 : Aside (At w0 blk (X ++ ([x'] ++ (B ++ Y))).toArray (grow (wr.drewN nq) osq)) := S1.out.grown nq osq
        clear cb' cx hc S1 eh
        generalize grow (wr.drewN nq) osq = w2 at S2 ⊢
        clear nq osq ei wi
        go_wp2
        go_roundg (h - i)
        case measure => omega
        case rel => exact ⟨i, h, rfl, rfl, ih, by omega, Nat.le_refl _, H1, HT, S2⟩
    · have hge : ¬ (a : Int) + 1 + (i : Int) < (a : Int) + 1 + (j : Int) := by omega
      obtain rfl : i = j := by omega
      have hB := HB.out
      have HM : Aside (Mg pr [x] B (B.take i ++ x :: B.drop i)) := by
        constructor
        · have h1 : (B.take i ++ x :: B.drop i).Perm (x :: (B.take i ++ B.drop i)) := List.perm_middle
          rw [List.take_append_drop] at h1
          exact h1
        · have sb := HQ.out.sb
          rw [← List.take_append_drop i B, List.pairwise_append] at sb
          rw [List.pairwise_append]
          refine ⟨sb.1, List.Pairwise.cons H2.out sb.2.1, fun y hy z hz => ?_⟩
          rcases List.mem_cons.1 hz with rfl | hz
          · exact H1.out y hy
          · exact sb.2.2 y hy z hz
      have S2 : Aside (At w0 blk (X ++ (B.take 0 ++ (x :: (B.drop 0 ++ Y)))).toArray wr) := by show At _ _ _ _; have h := S1.out; simpa using h
      have w2 : IntKind.i64.wrap ((a : Int) + 1 + (i : Int) - 1) = (a : Int) + (i : Int) := by rw [IntKind.wrap_i64]; omega
      clear S1 H1 H2
      go_wp2
      go_loopg [13] i (fun gq s13 wr => ∃ q : Nat, s13 = .int .i64 ((a : Int) + (q : Int)) ∧ q ≤ i ∧ i - q ≤ gq ∧ Aside (At w0 blk (X ++ (B.take q ++ (x :: (B.drop q ++ Y)))).toArray wr))
      case atStart => exact ⟨0, by go_num, Nat.zero_le _, Nat.le_refl _, S2⟩
      case round =>
        clear S2
        obtain ⟨q, rfl, hq, hg, S1⟩ := hrel
        by_cases hlt2 : q < i
        · have hl1 : (a : Int) + (q : Int) < (a : Int) + (i : Int) := by omega
          have hBq : q < B.length := by omega
          have hNQ : (X ++ ([x] ++ (B ++ Y))).length = N := HQ.out.len
          have hA := HA.out
          have hdq := List.drop_eq_getElem_cons hBq
          have htq : B.take (q + 1) = B.take q ++ [B[q]] := List.take_succ_eq_append_getElem hBq
          have dsz : (X ++ (B.take q ++ (x :: (B.drop q ++ Y)))).toArray.size = N := by
            simp only [List.size_toArray, List.length_append, List.length_cons, List.length_take, List.length_drop, List.length_nil] at hNQ ⊢
            omega
          have hsw : swp (X ++ (B.take q ++ (x :: (B.drop q ++ Y)))).toArray (a + q) (a + q + 1) = (X ++ (B.take (q + 1) ++ (x :: (B.drop (q + 1) ++ Y)))).toArray := by
            have h3 := swp_list (X ++ B.take q) [] (B.drop (q + 1) ++ Y) x B[q] (i := a + q) (j := a + q + 1) (by simp; omega) (by simp; omega)
            rw [hdq, htq]
            simp only [List.append_assoc, List.cons_append, List.nil_append] at h3 ⊢
            exact h3
          obtain ⟨x2, y2, ex2, ey2, sx, sy, fx, fy, ⟨u, cu⟩, S3⟩ := swap_facts (i := a + q) (j := a + q + 1) R dsz S1.out (by omega) (by omega)
          rw [hsw] at S3
          have S4 : Aside _ := S3
          have ei : ((a : Int) + (q : Int)).toNat = a + q := by omega
          have ej : ((a : Int) + (q : Int) + 1).toNat = a + q + 1 := by omega
          have pi : (0 : Int) ≤ (a : Int) + (q : Int) := by omega
          have pj : (0 : Int) ≤ (a : Int) + (q : Int) + 1 := by omega
          have bi : (a : Int) + (q : Int) < (N : Int) := by omega
          have bj : (a : Int) + (q : Int) + 1 < (N : Int) := by omega
          have wi : IntKind.i64.wrap ((a : Int) + (q : Int)) = (a : Int) + (q : Int) := by rw [IntKind.wrap_i64]; omega
          have wj : IntKind.i64.wrap ((a : Int) + (q : Int) + 1) = (a : Int) + (q : Int) + 1 := by rw [IntKind.wrap_i64]; omega
          clear S3 S1 hsw hdq htq dsz hA hNQ ex2 ey2 hB
          go_wp2_with fail
          go_big_region
          clear sx sy fx fy cu
          generalize ((wr.setCell ⟨blk, a + q, none⟩ (.int .i64 (y2 : Int))).setCell ⟨blk, a + q + 1, none⟩ (.int .i64 (x2 : Int))).drew = w3 at S4 ⊢
          clear ei ej wi wj
          go_wp2
          go_roundg (i - (q + 1))
          case measure => omega
          case rel => exact ⟨q + 1, by go_num, by omega, Nat.le_refl _, S4⟩
        · obtain rfl : q = i := by omega
          have hge2 : ¬ (a : Int) + (q : Int) < (a : Int) + (q : Int) := by omega
          clear hB
          go_wp2
          go_end0
          exact ⟨rfl, _, HM.out, by have h := S1.out; simp only [List.append_assoc, List.cons_append] at h ⊢; exact h⟩
end Go.Proofs.Ytekbeaogiagidaa.So
