-- written by xprint.py, an own overlay over the kit's print; not trusted: Lean checks it
import Derived.Test.YtekbeaogiagidaaX0
import Derived.Test.YtekbeaogiagidaaX4
import Derived.Test.YtekbeaogiagidaaX5
import Derived.Test.YtekbeaogiagidaaX6
import Derived.Test.YtekbeaogiagidaaX9
namespace Go.Proofs.Ytekbeaogiagidaa.X
open Go.RowKit Go.Proofs.YtekbeaogiagidaaW.PrintWords Go.Proofs.YtekbeaogiagidaaW.PrintLast Go.Proofs.YtekbeaogiagidaaW.PrintMore
attribute [local go_sem] max2_int min2_int max_two min_two max_three min_three max_four min_four   -- for this text's walks alone
set_option linter.unusedVariables false
set_option linter.unusedSimpArgs false

/-! ### share_Split: function 10 -/
open Go.Proofs.Ytekbeaogiagidaa.Sh (St)
/-! #### Split, told plainly -/
/-- The whole shares and the rests. -/
def share_Split.qr (k : Nat) (a0 all : Int) : List Int → Option (List Int × List Int)
  | [] => some ([], [])
  | x :: t => (bits_Mul64.f (IntKind.u64.wrap a0) (IntKind.u64.wrap x)).bind fun m => (bits_Div64.f k m.1 m.2 (IntKind.u64.wrap all)).bind fun d => if 0 ≤ d.2 then (share_Split.qr k a0 all t).bind fun s => some (wrap64 d.1 :: s.1, d.2 :: s.2) else none
/-- One more for each of the places. -/
def share_Split.bump (Q : List Int) (L : List Nat) : List Int := L.foldl (fun Q x => Q.set x (wrap64 (Q.getD x 0 + 1))) Q
def share_Split.rest (R : List Int) (j : Nat) : Nat := (R.getD j 0).toNat
def share_Split.f (k : Nat) (a0 : Int) (l1 : List Int) : Option (List Int × Int) := (share_check.f k a0 l1).bind fun c => if c.2 = 0 then (if l1.length ≤ 100000 then (share_Split.qr k a0 c.1 l1).bind fun s => (share_sum_int.f k s.1).bind fun t => if 0 ≤ wrap64 (a0 - t) then (if wrap64 (a0 - t) ≤ (l1.length : Int) then some (share_Split.bump s.1 ((So.ord (share_Split.rest s.2) l1.length).take (wrap64 (a0 - t)).toNat), 0) else none) else none else none) else some ([], c.2)
theorem share_Split.qr_mono (k : Nat) (a0 all : Int) : ∀ l, LeO (share_Split.qr k a0 all l) (share_Split.qr (k + 1) a0 all l)
  | [] => LeO.refl _
  | x :: t => LeO.bind (LeO.refl _) fun m => LeO.bind (bits_Div64.mono _ _ _ _) fun d => LeO.ite (LeO.bind (share_Split.qr_mono k a0 all t) fun s => LeO.refl _) (LeO.none _)
theorem share_Split.mono : ∀ a0 l1 k, LeO (share_Split.f k a0 l1) (share_Split.f (k + 1) a0 l1) := by
  intro a0 l1 k
  unfold share_Split.f
  refine LeO.bind (share_check.mono _ _ _) fun c => LeO.ite (LeO.ite (LeO.bind (share_Split.qr_mono k a0 c.1 l1) fun s => LeO.bind (share_sum_int.mono _ _) fun t => LeO.refl _) (LeO.none _)) (LeO.refl _)
theorem share_Split.qr_len {k : Nat} {a0 all : Int} : ∀ {l Q R}, share_Split.qr k a0 all l = some (Q, R) → Q.length = l.length ∧ R.length = l.length
  | [], Q, R, h => by rw [share_Split.qr] at h; cases h; exact ⟨rfl, rfl⟩
  | x :: t, Q, R, h => by
    rw [share_Split.qr] at h
    obtain ⟨m, _, h⟩ := Option.bind_eq_some_iff.mp h
    obtain ⟨d, _, h⟩ := Option.bind_eq_some_iff.mp h
    split at h
    · obtain ⟨⟨Q', R'⟩, h1, h⟩ := Option.bind_eq_some_iff.mp h
      cases h
      have := share_Split.qr_len h1
      exact ⟨by simp [this.1], by simp [this.2]⟩
    · cases h
theorem share_Split.qr_at {k : Nat} {a0 all : Int} : ∀ {l Q R}, share_Split.qr k a0 all l = some (Q, R) → ∀ i : Nat, i < l.length → ∃ h lo q r : Int, bits_Mul64.f (IntKind.u64.wrap a0) (IntKind.u64.wrap (rd l i)) = some (h, lo) ∧ bits_Div64.f k h lo (IntKind.u64.wrap all) = some (q, r) ∧ Q.getD i 0 = wrap64 q ∧ R.getD i 0 = r ∧ 0 ≤ r
  | [], Q, R, h, i, hi => absurd hi (by simp)
  | x :: t, Q, R, h, i, hi => by
    rw [share_Split.qr] at h
    obtain ⟨m, hm, h⟩ := Option.bind_eq_some_iff.mp h
    obtain ⟨d, hd, h⟩ := Option.bind_eq_some_iff.mp h
    split at h
    · rename_i h0
      obtain ⟨⟨Q', R'⟩, h1, h⟩ := Option.bind_eq_some_iff.mp h
      cases h
      cases i with
      | zero => exact ⟨m.1, m.2, d.1, d.2, hm, hd, rfl, rfl, h0⟩
      | succ i =>
        obtain ⟨a, b, c, e, g⟩ := share_Split.qr_at h1 i (by simp at hi; omega)
        refine ⟨a, b, c, e, ?_, g.2.1, g.2.2.1, g.2.2.2⟩
        exact g.1
    · cases h
theorem share_Split.rest_at {R : List Int} {j : Nat} (h : 0 ≤ R.getD j 0) : ((share_Split.rest R j : Nat) : Int) = R.getD j 0 := Int.toNat_of_nonneg h
theorem share_Split.bump_length (L : List Nat) : ∀ Q, (share_Split.bump Q L).length = Q.length := by
  unfold share_Split.bump
  induction L with
  | nil => intro Q; rfl
  | cons x t ih => intro Q; rw [List.foldl_cons, ih, List.length_set]
theorem share_Split.bump_step (Q : List Int) (L : List Nat) (j x : Nat) (h : L[j]? = some x) : share_Split.bump Q (L.take (j + 1)) = (share_Split.bump Q (L.take j)).set x (wrap64 ((share_Split.bump Q (L.take j)).getD x 0 + 1)) := by
  unfold share_Split.bump
  rw [List.take_add_one, h, List.foldl_append]
  rfl
set_option maxHeartbeats 8000000 in
set_option maxRecDepth 100000 in
theorem share_Split.calls (k : Nat) (a0 : Int) (A1 : Option Addr) (c1 : Nat) (l1 : List Int) (r1 : List Int) (r2 : Int) (w : World) (hr1 : Kd.C (Kd.int .i64) w A1 l1.length l1) (hc1 : l1.length ≤ c1) (h : share_Split.f k a0 l1 = some (r1, r2)) :
  Calls Try.prog 10 #[.int .i64 a0, .slice A1 l1.length c1] w fun e w' => ∃ v0_ : Value, e = .returned (.tuple #[v0_, .int .i64 r2]) ∧ Kd.R (Kd.int .i64) 3 w' w.heap.size (fun _ => True) v0_ r1 ∧ Below w.heap.size w w' := by
  unfold share_Split.f at h
  obtain ⟨⟨all, er⟩, hchk, hz⟩ := Option.bind_eq_some_iff.mp h
  clear h
  have h := hz
  clear hz
  have CK : Aside0 (Calls Try.prog 16 #[.int .i64 a0, .slice A1 l1.length c1] w fun e w' => e = .returned (.tuple #[.int .i64 all, .int .i64 er]) ∧ Drawn0 w w') := ⟨share_check.calls k a0 A1 c1 l1 all er w hr1 hc1 hchk⟩
  clear hchk
  have HB := Aside0.mk (Below.refl w.heap.size w)
  by_cases he : er = 0
  · subst he
    rw [if_pos rfl] at h
    have hrs : ∀ i : Nat, i < l1.length → ∃ ad, A1 = some ad ∧ w.cell? (ad.add i) = some (.int .i64 (rd l1 i)) := fun i hi => by
      have := Kd.at_int hr1 (i : Int) (by omega) (by omega)
      rwa [Int.toNat_natCast] at this
    obtain ⟨N, hN⟩ : ∃ N, l1.length = N := ⟨_, rfl⟩
    rw [hN] at h hrs CK hc1 ⊢
    split at h
    next hfew =>
      obtain ⟨⟨Q, R⟩, hqr, h2⟩ := Option.bind_eq_some_iff.mp h
      obtain ⟨t, hsum, h3⟩ := Option.bind_eq_some_iff.mp h2
      clear h h2
      have h := h3
      clear h3
      split at h
      next hl0 =>
        split at h
        next hl1 =>
          have HQ := share_Split.qr_len hqr
          have HA : Aside0 (∀ i : Nat, i < N → ∃ h lo q r : Int, bits_Mul64.f (IntKind.u64.wrap a0) (IntKind.u64.wrap (rd l1 i)) = some (h, lo) ∧ bits_Div64.f k h lo (IntKind.u64.wrap all) = some (q, r) ∧ Q.getD i 0 = wrap64 q ∧ R.getD i 0 = r ∧ 0 ≤ r) := ⟨hN ▸ share_Split.qr_at hqr⟩
          clear hqr
          have hmk3 : ∀ w, (Instr.makeSlice 22 (.int .i64 (N : Int)) (.int .i64 (N : Int))).run Try.prog w = .ok (.slice (some ⟨w.heap.size, 0, none⟩) N N) (w.alloc (.cells (madeCells #[.int .i64 0] N) 3)) := run_make_row' 22 3 (.int .i64 0) 8 rfl rfl rfl .i64 .i64 N (by omega) (by omega)
          have hmk7 : ∀ w, (Instr.makeSlice 36 (.int .i64 (N : Int)) (.int .i64 (N : Int))).run Try.prog w = .ok (.slice (some ⟨w.heap.size, 0, none⟩) N N) (w.alloc (.cells (madeCells #[.int .u64 0] N) 37)) := run_make_row' 36 37 (.int .u64 0) 8 rfl rfl rfl .i64 .i64 N (by omega) (by omega)
          have HN := Aside0.mk hN
          have HF := Aside0.mk hfew
          have H0 := Aside0.mk hl0
          have H1 := Aside0.mk hl1
          have HS := Aside0.mk hsum
          have HQ' := Aside0.mk HQ
          have HH := Aside0.mk h
          have HR := Aside0.mk hrs
          clear hN hfew hl0 hl1 hsum HQ h hrs hr1 hc1
          go_enter Try.func10, Try.ntmps10
          go_wp2_with (go_at_call 16; refine Calls.mono CK.out ?_; rintro e w' ⟨rfl, ⟨nd, rfl⟩⟩)
          have ST : Aside0 (St w _ N (fun j => if j < 0 then Q.getD j 0 else 0) (fun j => if j < 0 then R.getD j 0 else 0) (fun j => if j < 0 then (j : Int) else 0)) := ⟨(Sh.St.made (w := w) (w1 := w.drewN nd) (N := N) (pw_below_drewN HB.out nd) rfl).congr fun j hj => ⟨(if_neg (by omega)).symm, (if_neg (by omega)).symm, (if_neg (by omega)).symm⟩⟩
          have mixed : Try.prog.follows .mixedOrders = true := by kernel_rfl
          go_loopg [40] N (fun gq v W => ∃ i : Nat, v = .int .i64 (i : Int) ∧ Aside0 (i ≤ N) ∧ Aside0 (N - i ≤ gq) ∧ Aside0 (St w W N (fun j => if j < i then Q.getD j 0 else 0) (fun j => if j < i then R.getD j 0 else 0) (fun j => if j < i then (j : Int) else 0)))
          case atStart => exact ⟨0, rfl, ⟨Nat.zero_le _⟩, ⟨Nat.le_refl _⟩, ST⟩
          case round =>
            clear ST
            obtain ⟨i, rfl, hi, hg, ST⟩ := hrel
            by_cases hlt : i < N
            · obtain ⟨hh, lo, q, r, hm, hd, eq, er, h0⟩ := HA.out i hlt
              obtain ⟨ad, rfl, hc⟩ := HR.out i hlt
              have hcx : wr.cell? (ad.add i) = some (.int .i64 (rd l1 (i : Int))) := (ST.out.bel.cell (World.block_lt_of_cell? w _ hc)).trans hc
              obtain ⟨cb, co, fo, cr, fr, cd, fd, cr2, cd2, _⟩ := ST.out.stores i hlt (wrap64 q) r (i : Int)
              have ST2 := fun m : Nat => ((ST.out.drewN m).stores i hlt (wrap64 q) r (i : Int)).2.2.2.2.2.2.2.2.2
              rw [if_neg (Nat.lt_irrefl i)] at co cr cd cr2 cd2
              have S2 : Aside0 (∀ m, St w _ N _ _ _) := ⟨fun m => (ST2 m).congr (q' := fun j => if j < i + 1 then Q.getD j 0 else 0) (r' := fun j => if j < i + 1 then R.getD j 0 else 0) (o' := fun j => if j < i + 1 then (j : Int) else 0) fun j hj => by
                by_cases e : j = i
                · subst e
                  rw [if_pos rfl, if_pos rfl, if_pos rfl, if_pos (Nat.lt_succ_self _), if_pos (Nat.lt_succ_self _), if_pos (Nat.lt_succ_self _)]
                  exact ⟨eq.symm, er.symm, rfl⟩
                · rw [if_neg e, if_neg e, if_neg e]
                  by_cases g : j < i
                  · rw [if_pos g, if_pos g, if_pos g, if_pos (by omega), if_pos (by omega), if_pos (by omega)]; exact ⟨rfl, rfl, rfl⟩
                  · rw [if_neg g, if_neg g, if_neg g, if_neg (by omega), if_neg (by omega), if_neg (by omega)]; exact ⟨rfl, rfl, rfl⟩⟩
              have hltz : (i : Int) < (N : Int) := by omega
              have wi : IntKind.i64.wrap ((i : Int) + 1) = ((i + 1 : Nat) : Int) := by have := HF.out; rw [IntKind.wrap_i64]; omega
              have HM := Aside0.mk hm
              have HD := Aside0.mk hd
              have HG := Aside0.mk hlt
              clear hm hd ST2 eq er h0 hc hlt ST
              go_wp2_with (first | (go_at_call 17; refine (bits_Mul64.calls _ _ hh lo _ HM.out).mono ?_; rintro e w' ⟨rfl, ⟨nd1, rfl⟩⟩) | (go_at_call 18; refine (bits_Div64.calls _ _ _ _ q r _ HD.out).mono ?_; rintro e w' ⟨rfl, ⟨nd2, rfl⟩⟩))
              go_big_region
              generalize hW : World.setCell _ _ _ = w2
              have S3 : Aside0 (St w w2 N (fun j => if j < i + 1 then Q.getD j 0 else 0) (fun j => if j < i + 1 then R.getD j 0 else 0) (fun j => if j < i + 1 then (j : Int) else 0)) := ⟨hW ▸ S2.out (nd1 + nd2 + 1)⟩
              clear S2 hW cb co fo cr fr cd fd cr2 cd2 hcx
              go_wp2
              go_roundg (N - (i + 1))
              case measure => have := hg.out; have := HG.out; omega
              case rel => exact ⟨i + 1, by go_num, ⟨HG.out⟩, ⟨Nat.le_refl _⟩, S3⟩
            · obtain rfl : i = N := by have := hi.out; omega
              have hN1 : i ≤ 100000 := HF.out
              have hrr : ∀ j, j < i → 0 ≤ R.getD j 0 := fun j hj => by obtain ⟨_, _, _, _, _, _, _, h1, h2⟩ := HA.out j hj; rw [h1]; exact h2
              have ST0 := ST.out.congr (q' := fun j => Q.getD j 0) (r' := fun j => ((share_Split.rest R j : Nat) : Int)) (o' := fun j => (((List.range' 0 i).getD j 0 : Nat) : Int)) fun j hj => by
                rw [if_pos hj, if_pos hj, if_pos hj]
                exact ⟨rfl, (share_Split.rest_at (hrr j hj)).symm, by simp [List.getD_eq_getElem?_getD, List.getElem?_range', hj]⟩
              have hrow := ST0.row (O := List.range' 0 i) (by simp) hN1
              have SC : Aside0 (Calls Try.prog 19 #[.slice (some ⟨w.heap.size + 1 + 1 + 1, 0, none⟩) i i, .func (.func 20) #[] #[.pointer (some ⟨w.heap.size + 1 + 1, 0, none⟩)]] wr fun e w' => e = .returned (.tuple #[]) ∧ St w w' i (fun j => Q.getD j 0) (fun j => ((share_Split.rest R j : Nat) : Int)) (fun j => (((So.ord (share_Split.rest R) i).getD j 0 : Nat) : Int))) := ⟨by
                have eg : ∀ args w, (callFunc 20 args).run Try.prog w = .ok (.enter 20 args) w := Go.Proofs.enters_of Try.func20 (by kernel_rfl) rfl
                refine (So.sort_calls wr wr (w.heap.size + 1 + 1 + 1) i i 20 _ _ _ hrow.1 eg (So.closure_ok wr _ _ _ i i (share_Split.rest R) ST0.rests) (So.ord_rests (share_Split.rest R) i) hrow.2).mono ?_
                rintro e w' ⟨h1, L, h2, h3⟩
                have h4 := So.ord_of h2
                subst h4
                refine ⟨h1, ST0.sorted (by simp) ?_ hN1 h3⟩
                simpa using (So.ord_seg (share_Split.rest R) i).1.length_eq⟩
              have HO : Aside0 ((So.ord (share_Split.rest R) i).length = i ∧ ∀ j, j < i → (So.ord (share_Split.rest R) i).getD j 0 < i) := ⟨by
                have hp := (So.ord_seg (share_Split.rest R) i).1
                refine ⟨by simpa using hp.length_eq, fun j hj => ?_⟩
                have hl : j < (So.ord (share_Split.rest R) i).length := by rw [show (So.ord (share_Split.rest R) i).length = i by simpa using hp.length_eq]; exact hj
                have := hp.mem_iff.mp (List.getElem_mem hl)
                rw [List.mem_range'] at this
                rw [List.getD_eq_getElem?_getD, List.getElem?_eq_getElem hl]
                simp only [Option.getD_some]
                omega⟩
              obtain ⟨m, hm⟩ : ∃ m : Nat, wrap64 (a0 - t) = (m : Int) := ⟨(wrap64 (a0 - t)).toNat, (Int.toNat_of_nonneg H0.out).symm⟩
              have HQL : Aside0 (Q.length = i) := ⟨HQ'.out.1.trans HN.out⟩
              have HM2 : Aside0 (m ≤ i) := ⟨by have := H1.out; rw [hm] at this; omega⟩
              have HE : Aside0 (share_Split.bump Q ((So.ord (share_Split.rest R) i).take m) = r1 ∧ (0 : Int) = r2) := ⟨by
                have h1 := HH.out
                rw [hm, Int.toNat_natCast] at h1
                have := Option.some.inj h1
                exact Prod.mk.inj this⟩
              have HS1 : Aside0 (∀ W q' o', St w W i (fun j => Q.getD j 0) q' o' → Calls Try.prog 22 #[.slice (some ⟨w.heap.size, 0, none⟩) i i] W fun e w' => e = .returned (.int .i64 t) ∧ Drawn0 W w') := ⟨fun W q' o' hSt => by
                have := share_sum_int.calls k (some ⟨w.heap.size, 0, none⟩) i Q t W (hSt.reads HQL.out hN1) (Nat.le_of_eq HQL.out) HS.out
                rwa [HQL.out] at this⟩
              have HN2 := Aside0.mk hN1
              generalize So.ord (share_Split.rest R) i = O at SC HO HE
              have hmi : (m : Int) ≤ (i : Int) := by have := HM2.out; omega
              have hm0 : (0 : Int) ≤ (m : Int) := by omega
              clear ST0 hrow hrr HH HS H0 H1 HA hN1 ST hi hg hlt HQ' CK HF
              go_wp2_with (first | (go_at_call 19; refine Calls.mono SC.out ?_; rintro e w' ⟨rfl, hs⟩; have S4 := Aside0.mk hs; clear hs) | (go_at_call 22; refine Calls.mono (HS1.out _ _ _ S4.out) ?_; rintro e w' ⟨rfl, ⟨nd2, rfl⟩⟩))
              have S5 : Aside0 (St w (w'.drewN nd2) i (fun j => (share_Split.bump Q (O.take 0)).getD j 0) (fun j => ((share_Split.rest R j : Nat) : Int)) (fun j => ((O.getD j 0 : Nat) : Int))) := ⟨S4.out.drewN nd2⟩
              generalize w'.drewN nd2 = w5 at S5 ⊢
              clear S4
              go_loopg [86] m (fun gq v W => ∃ j : Nat, v = .int .i64 (j : Int) ∧ Aside0 (j ≤ m) ∧ Aside0 (m - j ≤ gq) ∧ Aside0 (St w W i (fun x => (share_Split.bump Q (O.take j)).getD x 0) (fun j => ((share_Split.rest R j : Nat) : Int)) (fun j => ((O.getD j 0 : Nat) : Int))))
              case atStart => exact ⟨0, rfl, ⟨Nat.zero_le _⟩, ⟨Nat.le_refl _⟩, S5⟩
              case round =>
                clear S5
                obtain ⟨j, rfl, hj, hg, ST⟩ := hrel
                by_cases hlt : j < m
                · have hji : j < i := Nat.lt_of_lt_of_le hlt HM2.out
                  obtain ⟨x, hx⟩ : ∃ x, O.getD j 0 = x := ⟨_, rfl⟩
                  have hxi : x < i := hx ▸ HO.out.2 j hji
                  have co := ST.out.ord.cell hji
                  rw [hx] at co
                  obtain ⟨cq, fq, _⟩ := ST.out.inc x hxi 0
                  have ST2 := fun n => ((ST.out.drewN n).inc x hxi (wrap64 ((share_Split.bump Q (O.take j)).getD x 0 + 1))).2.2
                  have NX : share_Split.bump Q (O.take (j + 1)) = (share_Split.bump Q (O.take j)).set x (wrap64 ((share_Split.bump Q (O.take j)).getD x 0 + 1)) := by
                    refine share_Split.bump_step Q O j x ?_
                    have hl : j < O.length := by rw [HO.out.1]; exact hji
                    rw [List.getElem?_eq_getElem hl]
                    rw [List.getD_eq_getElem?_getD, List.getElem?_eq_getElem hl] at hx
                    exact congrArg some hx
                  have LB : (share_Split.bump Q (O.take j)).length = i := (share_Split.bump_length _ _).trans HQL.out
                  generalize share_Split.bump Q (O.take j) = B at NX LB cq ST2
                  generalize hy : B.getD x 0 = y at cq NX ST2
                  have S2 : Aside0 (∀ n, St w ((wr.drewN n).setCell ⟨w.heap.size, x, none⟩ (.int .i64 (wrap64 (y + 1)))) i (fun z => (share_Split.bump Q (O.take (j + 1))).getD z 0) (fun j => ((share_Split.rest R j : Nat) : Int)) (fun j => ((O.getD j 0 : Nat) : Int))) := ⟨fun n => (ST2 n).congr fun z hz => by
                    refine ⟨?_, rfl, rfl⟩
                    show (if z = x then wrap64 (y + 1) else B.getD z 0) = (share_Split.bump Q (O.take (j + 1))).getD z 0
                    rw [NX, List.getD_eq_getElem?_getD, List.getD_eq_getElem?_getD, List.getElem?_set]
                    by_cases e : z = x
                    · subst e
                      rw [if_pos rfl, if_pos rfl, if_pos (by rw [LB]; exact hz)]; rfl
                    · rw [if_neg e, if_neg (fun e2 => e e2.symm)]⟩
                  have hltz : (j : Int) < (m : Int) := by omega
                  have hxz : (x : Int) < (i : Int) := by omega
                  have wj : IntKind.i64.wrap ((j : Int) + 1) = ((j + 1 : Nat) : Int) := by have := HN2.out; have := HM2.out; rw [IntKind.wrap_i64]; omega
                  have HG := Aside0.mk hlt
                  clear NX LB ST2 ST hy hx hlt hji hxi
                  go_wp2_with fail
                  generalize hW : World.setCell _ _ _ = w6
                  have S3 : Aside0 (St w w6 i (fun z => (share_Split.bump Q (O.take (j + 1))).getD z 0) (fun j => ((share_Split.rest R j : Nat) : Int)) (fun j => ((O.getD j 0 : Nat) : Int))) := ⟨hW ▸ S2.out 0⟩
                  clear S2 hW co cq fq
                  go_roundg (m - (j + 1))
                  case measure => have := hg.out; have := HG.out; omega
                  case rel => exact ⟨j + 1, by go_num, ⟨HG.out⟩, ⟨Nat.le_refl _⟩, S3⟩
                · obtain rfl : j = m := by have := hj.out; omega
                  have LB : (share_Split.bump Q (O.take j)).length = i := (share_Split.bump_length _ _).trans HQL.out
                  have HR1 : Aside0 (Kd.R (Kd.int .i64) 3 wr w.heap.size (fun _ => True) (.slice (some ⟨w.heap.size, 0, none⟩) i i) r1) := ⟨by rw [← HE.out.1]; exact ST.out.own LB HN2.out _ trivial⟩
                  have HB2 := Aside0.mk ST.out.bel
                  obtain rfl := HE.out.2
                  clear LB hlt
                  go_wp2
                  go_ret2
                  exact ⟨_, rfl, HR1.out, HB2.out⟩
        next => cases h
      next => cases h
    next => cases h
  · rw [if_neg he] at h
    obtain ⟨rfl, rfl⟩ := Prod.mk.inj (Option.some.inj h)
    clear h
    have heb : (er != 0) = true := bne_iff_ne.mpr he
    obtain ⟨N, hN⟩ : ∃ N, l1.length = N := ⟨_, rfl⟩
    rw [hN] at CK ⊢
    clear hr1 hc1 hN he
    go_enter Try.func10, Try.ntmps10
    go_wp2_with (go_at_call 16; refine Calls.mono CK.out ?_; rintro e w' ⟨rfl, ⟨nd, rfl⟩⟩)
    go_ret2
    exact ⟨_, rfl, Kd.R_nil _ _ _ _ _, pw_below_drewN HB.out nd⟩

end Go.Proofs.Ytekbeaogiagidaa.X
