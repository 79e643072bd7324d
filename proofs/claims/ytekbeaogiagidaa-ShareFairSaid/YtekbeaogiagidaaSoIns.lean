/- The insertion sort of a part of a row, walked. -/
import Derived.Test.YtekbeaogiagidaaSoList
namespace Go.Proofs.Ytekbeaogiagidaa.So
set_option linter.unusedVariables false
set_option linter.unusedSimpArgs false
open Go.Shelf Go.RowKit Go.Lib Go.Sort
/-- What is asked of the comparison: called with two numbers below N, in whatever world of the sort. -/
def CmpOk (g : Nat) (cb : Array Value) (cf : Nat → Nat → Int) (w0 : World) (blk N : Nat) : Prop :=
  ∀ (d : Array Nat) (W : World), d.size = N → At w0 blk d W → ∀ x y : Nat, x < N → y < N →
    Calls Try.prog g (#[.int .i64 (x : Int), .int .i64 (y : Int)] ++ cb) W fun e w' => e = .returned (.int .i64 (cf x y)) ∧ ∃ q os', w' = grow (W.drewN q) os'
/-- All that a comparison of the places i and j wants. -/
theorem cmp_facts {g : Nat} {cb : Array Value} {cf : Nat → Nat → Int} {w0 W : World} {blk N : Nat} {d : Array Nat} (C : CmpOk g cb cf w0 blk N) (R : Row w0 blk N) (hd : d.size = N) (S : At w0 blk d W) {i j : Nat} (hi : i < N) (hj : j < N) (hx : d[i]! < N) (hy : d[j]! < N) :
    ∃ x y : Nat, x = d[i]! ∧ y = d[j]! ∧ (∀ n os, (grow (W.drewN n) os).cell? ⟨blk, i, none⟩ = some (.int .i64 (x : Int))) ∧ (∀ n os, (grow (W.drewN n) os).cell? ⟨blk, j, none⟩ = some (.int .i64 (y : Int))) ∧
      ∀ n os, Calls Try.prog g (#[.int .i64 (x : Int), .int .i64 (y : Int)] ++ cb) (grow (W.drewN n) os) fun e w' => e = .returned (.int .i64 (cf x y)) ∧ ∃ q os', w' = grow ((grow (W.drewN n) os).drewN q) os' := by
  obtain ⟨d0, hs, R1⟩ := R.one
  have z : ∀ k : Nat, (⟨blk, 0 + k, none⟩ : Addr) = ⟨blk, k, none⟩ := fun k => by rw [Nat.zero_add]
  have a := S.cl R1 (by omega) i (by omega)
  have b := S.cl R1 (by omega) j (by omega)
  rw [z] at a b
  exact ⟨_, _, rfl, rfl, a, b, fun n os => C d _ hd (S.grown n os) _ _ hx hy⟩
def insRev (lt : Nat → Nat → Bool) : List Nat → Nat → List Nat
  | [], x => [x]
  | y :: r, x => if lt x y = true then y :: insRev lt r x else x :: y :: r
def isr (lt : Nat → Nat → Bool) (S : List Nat) : List Nat := S.foldl (insRev lt) []
theorem insRev_length (lt : Nat → Nat → Bool) (x : Nat) : ∀ r, (insRev lt r x).length = r.length + 1
  | [] => rfl
  | y :: r => by
    rw [insRev]
    split
    · rw [List.length_cons, insRev_length lt x r, List.length_cons]
    · rfl
theorem insRev_mem (lt : Nat → Nat → Bool) (x : Nat) : ∀ r z, z ∈ insRev lt r x → z = x ∨ z ∈ r
  | [], z, h => .inl (List.mem_singleton.1 h)
  | y :: r, z, h => by
    rw [insRev] at h
    split at h
    · rcases List.mem_cons.1 h with h | h
      · exact .inr (List.mem_cons.2 (.inl h))
      · exact (insRev_mem lt x r z h).imp id (List.mem_cons_of_mem _)
    · exact List.mem_cons.1 h
theorem all_lt {L : List Nat} {N k : Nat} (h : ∀ z ∈ L, z < N) (hk : k < L.length) : L.toArray[k]! < N := by
  rw [getElem!_pos _ _ (by simpa using hk)]
  exact h _ (by simp)
abbrev lt (cf : Nat → Nat → Int) (x y : Nat) : Bool := decide (cf x y < 0)
theorem ins_all (ltb : Nat → Nat → Bool) : ∀ (S acc : List Nat) (N : Nat), (∀ z ∈ acc, z < N) → (∀ z ∈ S, z < N) → ∀ z ∈ S.foldl (insRev ltb) acc, z < N
  | [], _, _, h, _ => h
  | x :: S, acc, N, h, hs => ins_all ltb S (insRev ltb acc x) N (fun z hz => by
      rcases insRev_mem ltb x acc z hz with rfl | hz
      · exact hs z (List.mem_cons_self ..)
      · exact h z hz) (fun z hz => hs z (List.mem_cons_of_mem _ hz))
set_option maxHeartbeats 16000000 in
set_option maxRecDepth 1000000 in
theorem insertion_calls (w0 w : World) (blk cap N g : Nat) (cb : Array Value) (cf : Nat → Nat → Int) (X S Y : List Nat) (R : Row w0 blk N) (eg : ∀ args w, (callFunc g args).run Try.prog w = .ok (.enter g args) w) (C : CmpOk g cb cf w0 blk N) (hN : (X ++ (S ++ Y)).length = N) (hall : ∀ z ∈ X ++ (S ++ Y), z < N) (hw : At w0 blk (X ++ (S ++ Y)).toArray w) (a b : Nat) (ha : a = X.length) (hb : b = X.length + S.length) :
    Calls Try.prog 37 #[.slice (some ⟨blk, 0, none⟩) N cap, .int .i64 (a : Int), .int .i64 (b : Int), .func (.func g) #[] cb] w fun e w' => e = .returned (.tuple #[]) ∧ At w0 blk (X ++ ((isr (lt cf) S).reverse ++ Y)).toArray w' := by
  have hfew := R.few
  have hbN : b ≤ N := by rw [← hN, hb]; simp
  have hab : a ≤ b := by omega
  have S0 : Aside (At w0 blk (X ++ (S ++ Y)).toArray w) := hw
  have HC : Aside _ := C
  have HN : Aside ((X ++ (S ++ Y)).length = N) := hN
  have HL : Aside (∀ z ∈ X ++ (S ++ Y), z < N) := hall
  have HA : Aside (a = X.length) := ha
  have HB : Aside (b = X.length + S.length) := hb
  have mixed : Try.prog.follows .mixedOrders = true := by kernel_rfl
  clear C hN hall hw ha hb
  go_enter Try.func37, Try.ntmps37
  go_wp2
  go_loopg [8] (b + 1 - a) (fun gq v wr => ∃ (i : Nat) (acc T : List Nat), v = .int .i64 (i : Int) ∧ a < i ∧ i ≤ b + 1 ∧ b + 1 - i ≤ gq ∧ Aside (X.length + acc.length + T.length = b) ∧ Aside ((T ≠ [] → X.length + acc.length = i) ∧ (T = [] → b ≤ i)) ∧ Aside (T.foldl (insRev (lt cf)) acc = isr (lt cf) S) ∧ Aside (∀ z ∈ X ++ (acc.reverse ++ (T ++ Y)), z < N) ∧ Aside (At w0 blk (X ++ (acc.reverse ++ (T ++ Y))).toArray wr))
  case atStart =>
    have hB' := HB.out
    have hA' := HA.out
    cases S with
    | nil =>
      have e : b = X.length := by simpa using hB'
      exact ⟨a + 1, [], [], by go_num, by omega, by omega, by omega, e.symm, ⟨fun h => absurd rfl h, fun _ => by omega⟩, rfl, HL.out, S0.out⟩
    | cons s S =>
      have e : b = X.length + (S.length + 1) := by simpa using hB'
      exact ⟨a + 1, [s], S, by go_num, by omega, by omega, by omega, (show X.length + 1 + S.length = b by omega), ⟨fun _ => (show X.length + 1 = a + 1 by omega), fun h => by subst h; simp at e; omega⟩, rfl, HL.out, S0.out⟩
  case round =>
    clear S0
    obtain ⟨i, acc, T, rfl, hai, hib, hg, HT, HK, HF, HM, S1⟩ := hrel
    cases T with
    | nil =>
      have hge : ¬ (i : Int) < (b : Int) := by have := HK.out.2 rfl; omega
      have hF : acc = isr (lt cf) S := HF.out
      subst hF
      clear HF
      go_wp2
      go_end0
      exact ⟨rfl, S1.out⟩
    | cons x T =>
      have hix : X.length + acc.length = i := HK.out.1 (by simp)
      have hTb := HT.out
      have hlt : (i : Int) < (b : Int) := by simp at hTb; omega
      have HX : Aside (X.length + acc.length = i) := hix
      have HTb : Aside (X.length + acc.length + (x :: T).length = b) := hTb
      have HLN : Aside ((X ++ (acc.reverse ++ (x :: T ++ Y))).length = N) := by
        have h1 : (X ++ (S ++ Y)).length = N := HN.out
        have h2 : b = X.length + S.length := HB.out
        simp only [List.length_append, List.length_cons, List.length_reverse] at h1 hTb ⊢
        show X.length + (acc.length + (T.length + 1 + Y.length)) = N
        omega
      clear hix hTb HK HT
      go_wp2
      go_loopg [9] i (fun g2 vj wr2 => ∃ (j : Nat) (R1 P2 : List Nat), vj = .int .i64 (j : Int) ∧ a ≤ j ∧ j ≤ i ∧ j ≤ g2 ∧ Aside (j = X.length + R1.length) ∧ Aside (insRev (lt cf) acc x = P2.reverse ++ insRev (lt cf) R1 x) ∧ Aside ((X ++ (R1.reverse ++ (x :: P2 ++ (T ++ Y)))).length = N) ∧ Aside (∀ z ∈ X ++ (R1.reverse ++ (x :: P2 ++ (T ++ Y))), z < N) ∧ Aside (At w0 blk (X ++ (R1.reverse ++ (x :: P2 ++ (T ++ Y)))).toArray wr2))
      case atStart => exact ⟨i, acc, [], rfl, by omega, Nat.le_refl _, Nat.le_refl _, HX.out.symm, rfl, HLN.out, HM.out, S1.out⟩
      case round =>
        clear S1 HM HLN
        obtain ⟨j, R1, P2, rfl, haj, hji, hg2, HJ, HI, HLN, HM, SJ⟩ := hrel
        have OUT : Aside (∀ W : World, insRev (lt cf) R1 x = x :: R1 → At w0 blk (X ++ (R1.reverse ++ (x :: P2 ++ (T ++ Y)))).toArray W →
            (X.length + (insRev (lt cf) acc x).length + T.length = b) ∧ ((T ≠ [] → X.length + (insRev (lt cf) acc x).length = i + 1) ∧ (T = [] → b ≤ i + 1)) ∧ (T.foldl (insRev (lt cf)) (insRev (lt cf) acc x) = isr (lt cf) S) ∧ (∀ z ∈ X ++ ((insRev (lt cf) acc x).reverse ++ (T ++ Y)), z < N) ∧ At w0 blk (X ++ ((insRev (lt cf) acc x).reverse ++ (T ++ Y))).toArray W) := fun W hs hW => by
          have h1 := HTb.out
          have h2 := HX.out
          have h3 := insRev_length (lt cf) x acc
          have e : (insRev (lt cf) acc x).reverse ++ (T ++ Y) = R1.reverse ++ (x :: P2 ++ (T ++ Y)) := by rw [HI.out, hs]; simp
          rw [List.length_cons] at h1
          exact ⟨by omega, ⟨fun _ => by omega, fun h => by subst h; simp at h1; omega⟩, HF.out, by rw [e]; exact HM.out, by rw [e]; exact hW⟩
        cases R1 with
        | nil =>
          have hja : decide ((j : Int) > (a : Int)) = false := decide_eq_false (by have h1 : j = X.length + 0 := HJ.out; have h2 : a = X.length := HA.out; omega)
          have hja' : ¬ (a : Int) < (j : Int) := of_decide_eq_false hja
          have hjn : decide (a < j) = false := decide_eq_false (by omega)
          have hjn' : ¬ a < j := by omega
          go_wp2_with fail
          go_big_region
          have S2 : Aside (At w0 blk (X ++ (([] : List Nat).reverse ++ (x :: P2 ++ (T ++ Y)))).toArray wr.drew) := SJ.out.drew
          clear SJ
          generalize wr.drew = w2 at S2 ⊢
          have OO := OUT.out w2 rfl S2.out
          have O2 : Aside _ := OO
          clear OO OUT
          go_wp2
          go_roundg (b + 1 - (i + 1))
          case measure => omega
          case rel => exact ⟨i + 1, insRev (lt cf) acc x, T, by go_num, by omega, by omega, Nat.le_refl _, O2.out.1, O2.out.2.1, O2.out.2.2.1, O2.out.2.2.2.1, O2.out.2.2.2.2⟩
        | cons y R1 =>
          obtain ⟨p, hp⟩ : ∃ p, j = p + 1 := ⟨X.length + R1.length, HJ.out⟩
          have hpl : p = X.length + R1.length := by have h1 : j = X.length + (R1.length + 1) := HJ.out; omega
          subst hp
          have eL : X ++ ((y :: R1).reverse ++ (x :: P2 ++ (T ++ Y))) = (X ++ R1.reverse) ++ y :: ([] ++ x :: (P2 ++ (T ++ Y))) := by simp
          have eL2 : (X ++ R1.reverse) ++ y :: ([] ++ x :: (P2 ++ (T ++ Y))) = (X ++ R1.reverse ++ [y]) ++ x :: (P2 ++ (T ++ Y)) := by simp
          have hsz : (X ++ ((y :: R1).reverse ++ (x :: P2 ++ (T ++ Y)))).toArray.size = N := by simpa using HLN.out
          have dy : (X ++ ((y :: R1).reverse ++ (x :: P2 ++ (T ++ Y)))).toArray[p]! = y := by rw [eL]; exact get_mid (by simp; omega)
          have dx : (X ++ ((y :: R1).reverse ++ (x :: P2 ++ (T ++ Y)))).toArray[p + 1]! = x := by rw [eL, eL2]; exact get_mid (by simp; omega)
          have hxN : x < N := HM.out x (by simp)
          have hyN : y < N := HM.out y (by simp)
          have hpN : p + 1 < N := by have h1 := HLN.out; simp at h1; omega
          have hsw : swp (X ++ ((y :: R1).reverse ++ (x :: P2 ++ (T ++ Y)))).toArray (p + 1) p = (X ++ (R1.reverse ++ (x :: (y :: P2) ++ (T ++ Y)))).toArray := by
            rw [eL, swp_list' (X ++ R1.reverse) [] (P2 ++ (T ++ Y)) y x (by simp; omega) (by simp; omega)]
            simp
          have HM2 : Aside (∀ z ∈ X ++ (R1.reverse ++ (x :: (y :: P2) ++ (T ++ Y))), z < N) := fun z hz => HM.out z (by
            simp only [List.mem_append, List.mem_cons, List.mem_reverse] at hz ⊢
            grind)
          have HN2 : Aside ((X ++ (R1.reverse ++ (x :: (y :: P2) ++ (T ++ Y)))).length = N) := by
            have h1 : (X ++ ((y :: R1).reverse ++ (x :: P2 ++ (T ++ Y)))).length = N := HLN.out
            show (X ++ (R1.reverse ++ (x :: (y :: P2) ++ (T ++ Y)))).length = N
            simp only [List.length_append, List.length_cons, List.length_reverse] at h1 ⊢
            omega
          obtain ⟨x', y', ex, ey, cx, cy, hc⟩ := cmp_facts (i := p + 1) (j := p) HC.out R hsz SJ.out hpN (by omega) (by rw [dx]; exact hxN) (by rw [dy]; exact hyN)
          rw [dx] at ex
          rw [dy] at ey
          subst ex
          subst ey
          have hgt : decide ((p : Int) + 1 > (a : Int)) = true := decide_eq_true (by have h2 : a = X.length := HA.out; omega)
          have hgt' : (a : Int) < (p : Int) + 1 := of_decide_eq_true hgt
          rw [show ((p + 1 : Nat) : Int) = (p : Int) + 1 by omega]
          have pi : (0 : Int) ≤ (p : Int) + 1 := by omega
          have bi : (p : Int) + 1 < (N : Int) := by omega
          have wi : IntKind.i64.wrap ((p : Int) + 1) = (p : Int) + 1 := by rw [IntKind.wrap_i64]; omega
          have bj : (p : Int) < (N : Int) := by omega
          have wj : IntKind.i64.wrap (p : Int) = (p : Int) := by rw [IntKind.wrap_i64]; omega
          have pj : (0 : Int) ≤ (p : Int) := by omega
          have HPL : Aside (p = X.length + R1.length) := hpl
          clear hpl HJ
          cases hlv : lt cf x' y' with
          | true =>
            have hv : cf x' y' < 0 := of_decide_eq_true hlv
            have hv' : decide (cf x' y' < 0) = true := hlv
            go_wp2_with fail
            go_quiet_grown (first | (go_at_fn g; refine Calls.grown_of (hc _ _)))
            have S2 : Aside (At w0 blk (X ++ ((y' :: R1).reverse ++ (x' :: P2 ++ (T ++ Y)))).toArray (grow (wr.drewN nq) osq)) := SJ.out.grown nq osq
            clear cx cy hc SJ
            generalize grow (wr.drewN nq) osq = w2 at S2 ⊢
            clear nq osq
            obtain ⟨x2, y2, ex2, ey2, sx, sy, fx, fy, ⟨u, cu⟩, S3⟩ := swap_facts (i := p + 1) (j := p) R hsz S2.out hpN (by omega)
            rw [dx] at ex2
            rw [dy] at ey2
            subst ex2
            subst ey2
            rw [hsw] at S3
            have S4 : Aside _ := S3
            clear S3 S2 hsw dx dy eL eL2 hsz
            go_wp2_with fail
            go_big_region
            clear sx sy fx fy cu
            generalize ((w2.setCell ⟨blk, p + 1, none⟩ (.int .i64 (y2 : Int))).setCell ⟨blk, p, none⟩ (.int .i64 (x2 : Int))).drew = w3 at S4 ⊢
            clear wi wj
            have HI2 : Aside (insRev (lt cf) acc x2 = (y2 :: P2).reverse ++ insRev (lt cf) R1 x2) := by
              show _ = _
              rw [HI.out, insRev, if_pos hlv]
              simp
            go_wp2
            go_roundg p
            case measure => omega
            case rel => exact ⟨p, R1, y2 :: P2, by first | rfl | go_num, by omega, by omega, Nat.le_refl _, HPL, HI2, HN2, HM2, S4⟩
          | false =>
            have hv : ¬ cf x' y' < 0 := of_decide_eq_false hlv
            have hv' : decide (cf x' y' < 0) = false := hlv
            go_wp2_with fail
            go_quiet_grown (first | (go_at_fn g; refine Calls.grown_of (hc _ _)))
            have S2 : Aside (At w0 blk (X ++ ((y' :: R1).reverse ++ (x' :: P2 ++ (T ++ Y)))).toArray (grow (wr.drewN nq) osq)) := SJ.out.grown nq osq
            clear cx cy hc SJ hsw dx dy eL eL2 hsz
            generalize grow (wr.drewN nq) osq = w2 at S2 ⊢
            clear nq osq wi wj
            have OO := OUT.out w2 (by rw [insRev, if_neg (by rw [hlv]; decide)]) S2.out
            have O2 : Aside _ := OO
            clear OO OUT
            go_wp2
            go_roundg (b + 1 - (i + 1))
            case measure => omega
            case rel => exact ⟨i + 1, insRev (lt cf) acc x', T, by go_num, by omega, by omega, Nat.le_refl _, O2.out.1, O2.out.2.1, O2.out.2.2.1, O2.out.2.2.2.1, O2.out.2.2.2.2⟩
end Go.Proofs.Ytekbeaogiagidaa.So
