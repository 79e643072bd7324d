import Derived.Test.YteflngoiebgdaaaX0
import Derived.Deep.MidRow
namespace Go.Proofs.Yteflngoiebgdaaa.X
open Go.Deep Go.RowKit YteflngoiebgdaaaW.PrintWords YteflngoiebgdaaaW.PrintLast YteflngoiebgdaaaW.PrintMore
attribute [local go_sem] max2_int min2_int max_two min_two max_three min_three max_four min_four
set_option linter.unusedVariables false
set_option linter.unusedSimpArgs false

/-! ### api_Pose_45: function 45 -/
def api_Pose_45.l0 : Nat → List (S54) → Int → Int → Option ((List (S54)))
 | 0, _, _, _ => none
 | k + 1, x0, x2, x3 => if x2 < x3 then (if 0 ≤ x3 then (if x3 < (x0.length : Int) then (if 0 ≤ x2 then (if x2 < (x0.length : Int) then (api_Pose_45.l0 k ((x0.set (x2 : Int).toNat (⟨(⟨(rd_T54 x0 x3).f0.f0, (rd_T54 x0 x3).f0.f1⟩ : S49), (rd_T54 x0 x3).f1, (rd_T54 x0 x3).f2, (⟨(⟨(rd_T54 x0 x3).f3.f0.f0, (rd_T54 x0 x3).f3.f0.f1, (rd_T54 x0 x3).f3.f0.f2⟩ : S51), (⟨(rd_T54 x0 x3).f3.f1.f0, (rd_T54 x0 x3).f3.f1.f1, (rd_T54 x0 x3).f3.f1.f2⟩ : S51), (⟨(rd_T54 x0 x3).f3.f2.f0, (rd_T54 x0 x3).f3.f2.f1, (rd_T54 x0 x3).f3.f2.f2⟩ : S51), (⟨(rd_T54 x0 x3).f3.f3.f0, (rd_T54 x0 x3).f3.f3.f1, (rd_T54 x0 x3).f3.f3.f2⟩ : S51), (⟨(rd_T54 x0 x3).f3.f4.f0, (rd_T54 x0 x3).f3.f4.f1, (rd_T54 x0 x3).f3.f4.f2⟩ : S51), (⟨(rd_T54 x0 x3).f3.f5.f0, (rd_T54 x0 x3).f3.f5.f1, (rd_T54 x0 x3).f3.f5.f2⟩ : S51)⟩ : S52)⟩ : S54)).set (x3 : Int).toNat (⟨(⟨(rd_T54 x0 x2).f0.f0, (rd_T54 x0 x2).f0.f1⟩ : S49), (rd_T54 x0 x2).f1, (rd_T54 x0 x2).f2, (⟨(⟨(rd_T54 x0 x2).f3.f0.f0, (rd_T54 x0 x2).f3.f0.f1, (rd_T54 x0 x2).f3.f0.f2⟩ : S51), (⟨(rd_T54 x0 x2).f3.f1.f0, (rd_T54 x0 x2).f3.f1.f1, (rd_T54 x0 x2).f3.f1.f2⟩ : S51), (⟨(rd_T54 x0 x2).f3.f2.f0, (rd_T54 x0 x2).f3.f2.f1, (rd_T54 x0 x2).f3.f2.f2⟩ : S51), (⟨(rd_T54 x0 x2).f3.f3.f0, (rd_T54 x0 x2).f3.f3.f1, (rd_T54 x0 x2).f3.f3.f2⟩ : S51), (⟨(rd_T54 x0 x2).f3.f4.f0, (rd_T54 x0 x2).f3.f4.f1, (rd_T54 x0 x2).f3.f4.f2⟩ : S51), (⟨(rd_T54 x0 x2).f3.f5.f0, (rd_T54 x0 x2).f3.f5.f1, (rd_T54 x0 x2).f3.f5.f2⟩ : S51)⟩ : S52)⟩ : S54)) (wrap64 (x2 + 1)) (wrap64 (x3 - 1))) else (none)) else (none)) else (none)) else (none)) else (some x0)
def api_Pose_45.f (k : Nat) (l0 : List (S54)) : Option ((List (S54))) := api_Pose_45.l0 k l0 0 (wrap64 ((l0.length : Int) - 1))
theorem api_Pose_45.mono_l : ∀ k, (∀ y0 y1 y2, LeO (api_Pose_45.l0 k y0 y1 y2) (api_Pose_45.l0 (k + 1) y0 y1 y2))
 | 0 => fun _ _ _ r h => by simp [api_Pose_45.l0] at h
 | k + 1 => by
  have ih0 := api_Pose_45.mono_l k
  ·
   intro y0 y1 y2
   unfold api_Pose_45.l0
   repeat' first
   | (with_reducible exact ih0 _ _ _)
   | (with_reducible exact LeO.refl _)
   | (with_reducible exact LeO.none _)
   | (with_reducible refine LeO.ite ?_ ?_)
   | (with_reducible refine LeO.bind ?_ (fun _ => ?_))
   | exact ih0 _ _ _
   | exact LeO.none _
   | refine LeO.ite ?_ ?_
   | refine LeO.bind ?_ (fun _ => ?_)
theorem api_Pose_45.mono : ∀ a0 k, LeO (api_Pose_45.f k a0) (api_Pose_45.f (k + 1) a0) := by
 intro a0 k
 have ih0 := api_Pose_45.mono_l k
 unfold api_Pose_45.f
 repeat' first
   | (with_reducible exact ih0 _ _ _)
   | (with_reducible exact LeO.refl _)
   | (with_reducible exact LeO.none _)
   | (with_reducible refine LeO.ite ?_ ?_)
   | (with_reducible refine LeO.bind ?_ (fun _ => ?_))
   | exact ih0 _ _ _
   | exact LeO.none _
   | refine LeO.ite ?_ ?_
   | refine LeO.bind ?_ (fun _ => ?_)
def api_Pose_45.T3 : Bool × List (List Nat × List Nat) := (true, [([], []), ([], []), ([], []), ([], []), ([], []), ([], []), ([4, 5], [4, 5]), ([6], [6]), ([], []), ([], []), ([8, 9], [8, 9]), ([10], [10]), ([0, 1, 0, 1, 4, 5, 6, 7, 11], [0, 1]), ([12, 7, 0, 1, 4, 5, 6, 7, 11], [7, 12]), ([2, 3, 0, 1, 2, 3, 4, 5, 6, 7, 8, 9, 10, 11, 12, 13], [2, 3]), ([14, 11, 13, 0, 1, 2, 3, 4, 5, 6, 7, 8, 9, 10, 11, 12, 13], [11, 14])])
def api_Pose_45.B3 : List Nat := [0, 0, 0, 0, 0, 0, 48, 112, 0, 0, 768, 1792, 4083, 8179, 16383, 32767]
/-! ### a row's elements, whole -/
theorem kAny_ {w w' : World} {base base' : Nat} {ok ok' : Nat → Prop} {x : S54} {cs : List Value} (h : k54.M w base ok x cs) : k54.M w' base' ok' x cs := by rw [k54_openM h]; exact k54_mkM _ _ _ _
theorem revOne {w : World} {base : Nat} {ok : Nat → Prop} {x : S54} {cs : List Value} (h : k54.M w base ok x cs) : cs.toArray.all (·.oneCell') = true := by rw [k54_openM h]; simp [Value.oneCell']
theorem revThere {W : World} {g o : Nat} {c d : List Value} (hl : c.length = k54.sz) (hc : ∀ j u, c[j]? = some u → W.cell? ⟨g, o + j, none⟩ = some u) (hf : ∀ j, W.frozen? ⟨g, o + j, none⟩ = false) (hd : d.length = k54.sz) : W.there g o d.toArray.size := fun j hj => by
  rw [List.size_toArray] at hj
  have h : j < c.length := by omega
  exact ⟨by rw [hc j _ (List.getElem?_eq_getElem h)]; rfl, hf j⟩
theorem revKept {w W W2 : World} {S : Nat → Prop} {g : Nat} (h : Kept w W S) (hg : W.grownBy W2 (some g)) (hs : S g ∨ w.heap.size ≤ g) : Kept w W2 S :=
  h.then_ (S2 := fun k => k = g) ⟨hg.size, fun i hi hn => hg.block i hi (fun e => hn (Option.some.inj e))⟩ (fun k hk => by cases hk; exact hs)
theorem revSeg {W W' : World} {base base' : Nat} {ok ok' : Nat → Prop} {g n cap : Nat} {xs : List S54} {x : S54} {c d : List Value} (h : Kd.R k54 54 W base ok (.slice (some ⟨g, 0, none⟩) n cap) xs) (i : Int) (h0 : 0 ≤ i) (h1 : i < n)
    (hl : c.length = k54.sz) (hc : ∀ j u, c[j]? = some u → W.cell? ⟨g, i.toNat * k54.sz + j, none⟩ = some u) (hd : d.length = k54.sz) (hM : k54.M W' base' ok' x d) :
    Kd.R k54 54 (W.setCells g (i.toNat * 22) d) base ok (.slice (some ⟨g, 0, none⟩) n cap) (xs.set i.toNat x) ∧ W.grownBy (W.setCells g (i.toNat * 22) d) (some g) :=
  Kd.R_seg h i h0 h1 (c := c) (seg := d) (j := 0) hl hc (by omega) (okp := fun k => ok k ∧ k ≠ g) (by
    rw [List.take_zero, List.nil_append, List.drop_of_length_le (by omega), List.append_nil]
    exact kAny_ hM) (fun _ hk => hk)
theorem api_Pose_45.tab3 : rtab .any (opsOf Try.f45 3) = api_Pose_45.T3 := by kernel_rfl
theorem api_Pose_45.bits3 : waitsOk api_Pose_45.T3.2 api_Pose_45.B3 = true := by kernel_rfl
set_option maxHeartbeats 8000000 in
set_option maxRecDepth 100000 in
theorem api_Pose_45.calls (k : Nat) (P0_ : Nat → Prop) (u9000_ : Value) (l0 : List (S54)) (r : List (S54)) (w0 w : World) (hB : Below w0.heap.size w0 w) (ho0 : Kd.R k54 54 w w0.heap.size P0_ u9000_ l0) (h : api_Pose_45.f k l0 = some r) :
  Calls Try.prog 45 #[u9000_] w fun e w' => e = .returned (.tuple #[]) ∧ Kd.R k54 54 w' w0.heap.size (fun k_ => (P0_ k_ ∨ w.heap.size ≤ k_)) u9000_ r ∧ Below w0.heap.size w0 w' ∧ Kept w w' (fun k_ => P0_ k_) := by
 have hu54 := Try.underlying54
 have HO0 := am (show Kd.R k54 54 w w0.heap.size (fun k_ => (P0_ k_ ∨ w.heap.size ≤ k_)) u9000_ l0 from Kd.R_mono ho0 (fun k_ hk => (.inl hk)))
 have HK := am (Kept.refl w (fun k_ => P0_ k_))
 have HW0 := am hB.size
 have HB := am hB
 clear hB
 have H : (api_Pose_45.l0 k l0 0 (wrap64 ((l0.length : Int) - 1))) = some r := h
 clear h
 have H' := am H
 clear H
 obtain ⟨Ao2, co2, eo2⟩ := Kd.R_slice HO0.out
 subst eo2
 go_enter Try.func45, Try.ntmps45
 go_wp2
 go_loopg [2, 3] k (fun kq v2 v3 w' => ∃ (x0_1 : List (S54)) (x2_1 x3_1 : Int), v2 = .int .i64 x2_1 ∧ v3 = .int .i64 x3_1 ∧ Aside0 (api_Pose_45.l0 kq x0_1 x2_1 x3_1 = some r) ∧ Aside0 (kq ≤ k) ∧ Aside0 (Kd.R k54 54 w' w0.heap.size (fun k_ => (P0_ k_ ∨ w.heap.size ≤ k_)) (.slice Ao2 l0.length co2) x0_1) ∧ Aside0 (Kept w w' (fun k_ => P0_ k_)) ∧ Aside0 (Below w0.heap.size w0 w'))
 case atStart => exact ⟨(l0), (0), (wrap64 ((l0.length : Int) - 1)), sz, sz, H', ⟨Nat.le_refl _⟩, ⟨rz HO0⟩, ⟨by repeat (first | (with_reducible first | exact HK.out | apply Kept.alloc | apply Kept.drewN | apply Kept.drew) | exact HK.out)⟩, ⟨bz⟩⟩
 case round =>
  clear H'
  try clear p2
  obtain ⟨x0_1, x2_1, x3_1, rfl, rfl, HA, HK1, HO_0, HK, HB⟩ := hrel
  have hl0_1 := (Kd.R_reads' HO_0.out).1
  rw [hl0_1] at HO_0
  (try simp only [hl0_1])
  cases gk with
  | zero => exact absurd HA.out (by simp [api_Pose_45.l0])
  | succ k1 =>
   have H := HA.out
   clear HA
   simp only [api_Pose_45.l0] at H
   by_cases c3 : x2_1 < x3_1
   ·
    rw [if_pos c3] at H
    have c3b0 := decide_eq_true c3
    clear c3
    by_cases c4 : 0 ≤ x3_1; rotate_left
    · rw [if_neg c4] at H; exact absurd H (by simp)
    rw [if_pos c4] at H
    have c4b0 := decide_eq_true c4
    clear c4
    by_cases c5 : x3_1 < (x0_1.length : Int); rotate_left
    · rw [if_neg c5] at H; exact absurd H (by simp)
    rw [if_pos c5] at H
    have c5b0 := decide_eq_true c5
    clear c5
    by_cases c6 : 0 ≤ x2_1; rotate_left
    · rw [if_neg c6] at H; exact absurd H (by simp)
    rw [if_pos c6] at H
    have c6b0 := decide_eq_true c6
    clear c6
    by_cases c7 : x2_1 < (x0_1.length : Int); rotate_left
    · rw [if_neg c7] at H; exact absurd H (by simp)
    rw [if_pos c7] at H
    have c7b0 := decide_eq_true c7
    clear c7
    obtain ⟨y761, hy761⟩ : ∃ y_ : List (S54), y_ = (x0_1.set (x2_1 : Int).toNat (⟨(⟨(rd_T54 x0_1 x3_1).f0.f0, (rd_T54 x0_1 x3_1).f0.f1⟩ : S49), (rd_T54 x0_1 x3_1).f1, (rd_T54 x0_1 x3_1).f2, (⟨(⟨(rd_T54 x0_1 x3_1).f3.f0.f0, (rd_T54 x0_1 x3_1).f3.f0.f1, (rd_T54 x0_1 x3_1).f3.f0.f2⟩ : S51), (⟨(rd_T54 x0_1 x3_1).f3.f1.f0, (rd_T54 x0_1 x3_1).f3.f1.f1, (rd_T54 x0_1 x3_1).f3.f1.f2⟩ : S51), (⟨(rd_T54 x0_1 x3_1).f3.f2.f0, (rd_T54 x0_1 x3_1).f3.f2.f1, (rd_T54 x0_1 x3_1).f3.f2.f2⟩ : S51), (⟨(rd_T54 x0_1 x3_1).f3.f3.f0, (rd_T54 x0_1 x3_1).f3.f3.f1, (rd_T54 x0_1 x3_1).f3.f3.f2⟩ : S51), (⟨(rd_T54 x0_1 x3_1).f3.f4.f0, (rd_T54 x0_1 x3_1).f3.f4.f1, (rd_T54 x0_1 x3_1).f3.f4.f2⟩ : S51), (⟨(rd_T54 x0_1 x3_1).f3.f5.f0, (rd_T54 x0_1 x3_1).f3.f5.f1, (rd_T54 x0_1 x3_1).f3.f5.f2⟩ : S51)⟩ : S52)⟩ : S54)) := ⟨_, rfl⟩
    replace H : (api_Pose_45.l0 k1 (y761.set (x3_1 : Int).toNat (⟨(⟨(rd_T54 x0_1 x2_1).f0.f0, (rd_T54 x0_1 x2_1).f0.f1⟩ : S49), (rd_T54 x0_1 x2_1).f1, (rd_T54 x0_1 x2_1).f2, (⟨(⟨(rd_T54 x0_1 x2_1).f3.f0.f0, (rd_T54 x0_1 x2_1).f3.f0.f1, (rd_T54 x0_1 x2_1).f3.f0.f2⟩ : S51), (⟨(rd_T54 x0_1 x2_1).f3.f1.f0, (rd_T54 x0_1 x2_1).f3.f1.f1, (rd_T54 x0_1 x2_1).f3.f1.f2⟩ : S51), (⟨(rd_T54 x0_1 x2_1).f3.f2.f0, (rd_T54 x0_1 x2_1).f3.f2.f1, (rd_T54 x0_1 x2_1).f3.f2.f2⟩ : S51), (⟨(rd_T54 x0_1 x2_1).f3.f3.f0, (rd_T54 x0_1 x2_1).f3.f3.f1, (rd_T54 x0_1 x2_1).f3.f3.f2⟩ : S51), (⟨(rd_T54 x0_1 x2_1).f3.f4.f0, (rd_T54 x0_1 x2_1).f3.f4.f1, (rd_T54 x0_1 x2_1).f3.f4.f2⟩ : S51), (⟨(rd_T54 x0_1 x2_1).f3.f5.f0, (rd_T54 x0_1 x2_1).f3.f5.f1, (rd_T54 x0_1 x2_1).f3.f5.f2⟩ : S51)⟩ : S52)⟩ : S54)) (wrap64 (x2_1 + 1)) (wrap64 (x3_1 - 1))) = some r := by first | (rw [hy761]; with_reducible exact H) | (have H2_ := (Option.bind_some _ _).symm.trans H; rw [hy761]; with_reducible exact H2_) | (have H2_ := (Option.bind_some _ _).symm.trans H; with_reducible exact H2_) | with_reducible exact H | (rw [hy761]; exact H) | exact H
    have Ny761 := am hy761
    clear hy761
    obtain ⟨y762, hy762⟩ : ∃ y_ : List (S54), y_ = (y761.set (x3_1 : Int).toNat (⟨(⟨(rd_T54 x0_1 x2_1).f0.f0, (rd_T54 x0_1 x2_1).f0.f1⟩ : S49), (rd_T54 x0_1 x2_1).f1, (rd_T54 x0_1 x2_1).f2, (⟨(⟨(rd_T54 x0_1 x2_1).f3.f0.f0, (rd_T54 x0_1 x2_1).f3.f0.f1, (rd_T54 x0_1 x2_1).f3.f0.f2⟩ : S51), (⟨(rd_T54 x0_1 x2_1).f3.f1.f0, (rd_T54 x0_1 x2_1).f3.f1.f1, (rd_T54 x0_1 x2_1).f3.f1.f2⟩ : S51), (⟨(rd_T54 x0_1 x2_1).f3.f2.f0, (rd_T54 x0_1 x2_1).f3.f2.f1, (rd_T54 x0_1 x2_1).f3.f2.f2⟩ : S51), (⟨(rd_T54 x0_1 x2_1).f3.f3.f0, (rd_T54 x0_1 x2_1).f3.f3.f1, (rd_T54 x0_1 x2_1).f3.f3.f2⟩ : S51), (⟨(rd_T54 x0_1 x2_1).f3.f4.f0, (rd_T54 x0_1 x2_1).f3.f4.f1, (rd_T54 x0_1 x2_1).f3.f4.f2⟩ : S51), (⟨(rd_T54 x0_1 x2_1).f3.f5.f0, (rd_T54 x0_1 x2_1).f3.f5.f1, (rd_T54 x0_1 x2_1).f3.f5.f2⟩ : S51)⟩ : S52)⟩ : S54)) := ⟨_, rfl⟩
    replace H : (api_Pose_45.l0 k1 y762 (wrap64 (x2_1 + 1)) (wrap64 (x3_1 - 1))) = some r := by first | (rw [hy762]; with_reducible exact H) | (have H2_ := (Option.bind_some _ _).symm.trans H; rw [hy762]; with_reducible exact H2_) | (have H2_ := (Option.bind_some _ _).symm.trans H; with_reducible exact H2_) | with_reducible exact H | (rw [hy762]; exact H) | exact H
    have Ny762 := am hy762
    clear hy762
    have H' := am H
    clear H
    try go_wp2
    replace HO_0 := am (Kd.R_drew HO_0.out)
    replace HK := am (Kept.drew HK.out)
    replace HB := am (below_drew1 HB.out)
    have p3 : 0 ≤ (x3_1 : Int) := az
    have q3 : x3_1 < (x0_1.length : Int) := az
    have p2 : 0 ≤ (x2_1 : Int) := az
    have q2 : x2_1 < (x0_1.length : Int) := az
    obtain ⟨go8, co8, eo8, gb8, gl8, cl8, HG8⟩ := Kd.R_form HO_0.out (by omega)
    (first | cases eo8 | (injection eo8 with ea_ en_ ec_; (first | subst ea_ | (injection ea_ with ea_; subst ea_)); subst ec_; clear en_))
    have GB8 := am gb8
    clear gb8 gl8 HG8
    have HMgo8 := am (show (P0_ go8 ∨ w.heap.size ≤ go8) from (HO_0.out.1 _ rfl))
    have L3 : x3_1 < (l0.length : Int) := by have e_ := (Kd.R_reads' HO_0.out).1; omega
    have L2 : x2_1 < (l0.length : Int) := by have e_ := (Kd.R_reads' HO_0.out).1; omega
    obtain ⟨ceA, hlA, hMA, hcA, hfA⟩ := Kd.R_elem HO_0.out z54 x3_1 p3 (by first | exact q3 | exact L3)
    obtain ⟨ceB, hlB, hMB, hcB, hfB⟩ := Kd.R_elem HO_0.out z54 x2_1 p2 (by first | exact q2 | exact L2)
    have e1_ : y761 = x0_1.set x2_1.toNat (rd_T54 x0_1 x3_1) := Ny761.out
    have e2_ : y762 = y761.set x3_1.toNat (rd_T54 x0_1 x2_1) := Ny762.out
    obtain ⟨s1, g1⟩ := revSeg HO_0.out (x := rd_T54 x0_1 x3_1) x2_1 p2 (by first | exact q2 | exact L2) hlB hcB hlA hMA
    rw [← e1_] at s1
    obtain ⟨ceC, hlC, hMC, hcC, hfC⟩ := Kd.R_elem s1 z54 x3_1 p3 (by first | exact q3 | exact L3)
    obtain ⟨s2, g2⟩ := revSeg s1 (x := rd_T54 x0_1 x2_1) x3_1 p3 (by first | exact q3 | exact L3) hlC hcC hlB hMB
    rw [← e2_] at s2
    have HQ12 := am s2
    clear s2 e1_ e2_
    have T1 : (wr.drew).there go8 (x2_1.toNat * 22) ceA.toArray.size := revThere hlB hcB hfB hlA
    have T2 : ((wr.drew).setCells go8 (x2_1.toNat * 22) ceA).there go8 (x3_1.toNat * 22) ceB.toArray.size := revThere hlC hcC hfC hlB
    have O1 := revOne hMA
    have O2 := revOne hMB
    have n1_ := revKept (revKept HK.out g1 (by first | exact HMgo8.out | exact Or.inr GB8.out)) g2 (by first | exact HMgo8.out | exact Or.inr GB8.out)
    have n2_ := (HB.out.grown g1 HB.out.size (fun k_ hk_ => by cases hk_; exact GB8.out))
    replace HB := am (n2_.grown g2 n2_.size (fun k_ hk_ => by cases hk_; exact GB8.out))
    replace HK := am n1_
    clear n1_ n2_ s1 g1 g2 hMA hMB hMC hfA hfB hfC
    replace p2 := eq_true p2
    replace q2 := eq_true q2
    replace p3 := eq_true p3
    replace q3 := eq_true q3
    replace L2 := eq_true L2
    replace L3 := eq_true L3
    refine start_ (n := 16) (S := fun w' => w'.rangeAt go8 (x3_1.toNat * 22) ceA ∧ w'.rangeAt go8 (x2_1.toNat * 22) ceB) (ds := [13, 15]) #[false, false, false, false, false, false, false, false, false, false, false, false, false, false, false, false] qz rfl rfl ⟨hcA, hcB⟩ (fun hHeld => ?_); refine with_tabW api_Pose_45.tab3 api_Pose_45.bits3 (fun HT_ HW_ => ?_)
    clear hcA hcB hcC
    generalize wr.drew = w10 at HO_0 HK HB HQ12 T1 T2 hHeld ⊢
    refine pure_ (i := 0) (N := some 14) (v := ?_) (a' := ?_) #[true, false, false, false, false, false, false, false, false, false, false, false, false, false, false, false] rfl rfl (any_of HT_.out qz) (fun _ _ _ h => h) (Or.inl ⟨by rfl, ?_⟩) ?_ ?_
    rotate_left; (intro w'; go_simp; with_reducible rfl); rotate_left; (simp only [Act.put, aS, lZ, lS, i64_w, i32_w]; rfl)
    refine pure_ (i := 1) (N := some 15) (v := ?_) (a' := ?_) #[true, true, false, false, false, false, false, false, false, false, false, false, false, false, false, false] rfl rfl (any_of HT_.out qz) (fun _ _ _ h => h) (Or.inl ⟨by rfl, ?_⟩) ?_ ?_
    rotate_left; (intro w'; go_simp; with_reducible rfl); rotate_left; (simp only [Act.put, aS, lZ, lS, i64_w, i32_w]; rfl)
    refine pure_ (i := 2) (N := some 16) (v := ?_) (a' := ?_) #[true, true, true, false, false, false, false, false, false, false, false, false, false, false, false, false] rfl rfl (any_of HT_.out qz) (fun _ _ _ h => h) (Or.inl ⟨by rfl, ?_⟩) ?_ ?_
    rotate_left; (intro w'; go_simp; with_reducible rfl); rotate_left; (simp only [Act.put, aS, lZ, lS, i64_w, i32_w]; rfl)
    refine pure_ (i := 3) (N := some 17) (v := ?_) (a' := ?_) #[true, true, true, true, false, false, false, false, false, false, false, false, false, false, false, false] rfl rfl (any_of HT_.out qz) (fun _ _ _ h => h) (Or.inl ⟨by rfl, ?_⟩) ?_ ?_
    rotate_left; (intro w'; go_simp; with_reducible rfl); rotate_left; (simp only [Act.put, aS, lZ, lS, i64_w, i32_w]; rfl)
    refine pure_ (i := 4) (N := some 18) (v := ?_) (a' := ?_) #[true, true, true, true, true, false, false, false, false, false, false, false, false, false, false, false] rfl rfl (any_of HT_.out qz) (fun _ _ _ h => h) (Or.inl ⟨by rfl, ?_⟩) ?_ ?_
    rotate_left; (intro w'; go_simp; with_reducible rfl); rotate_left; (simp only [Act.put, aS, lZ, lS, i64_w, i32_w]; rfl)
    refine pure_ (i := 5) (N := some 19) (v := ?_) (a' := ?_) #[true, true, true, true, true, true, false, false, false, false, false, false, false, false, false, false] rfl rfl (any_of HT_.out qz) (fun _ _ _ h => h) (Or.inl ⟨by rfl, ?_⟩) ?_ ?_
    rotate_left; (intro w'; go_simp; with_reducible rfl); rotate_left; (simp only [Act.put, aS, lZ, lS, i64_w, i32_w]; rfl)
    refine pure_ (i := 6) (N := some 20) (v := ?_) (a' := ?_) #[true, true, true, true, true, true, true, false, false, false, false, false, false, false, false, false] rfl rfl (any_of HT_.out qz) (fun _ _ _ h => h) (Or.inl ⟨by rfl, ?_⟩) ?_ ?_
    rotate_left; (intro w'; go_simp; with_reducible rfl); rotate_left; (simp only [Act.put, aS, lZ, lS, i64_w, i32_w]; rfl)
    refine pure_ (i := 8) (N := some 22) (v := ?_) (a' := ?_) #[true, true, true, true, true, true, true, false, true, false, false, false, false, false, false, false] rfl rfl (any_of HT_.out qz) (fun _ _ _ h => h) (Or.inl ⟨by rfl, ?_⟩) ?_ ?_
    rotate_left; (intro w'; go_simp; with_reducible rfl); rotate_left; (simp only [Act.put, aS, lZ, lS, i64_w, i32_w]; rfl)
    refine pure_ (i := 9) (N := some 23) (v := ?_) (a' := ?_) #[true, true, true, true, true, true, true, false, true, true, false, false, false, false, false, false] rfl rfl (any_of HT_.out qz) (fun _ _ _ h => h) (Or.inl ⟨by rfl, ?_⟩) ?_ ?_
    rotate_left; (intro w'; go_simp; with_reducible rfl); rotate_left; (simp only [Act.put, aS, lZ, lS, i64_w, i32_w]; rfl)
    refine pure_ (i := 10) (N := some 24) (v := ?_) (a' := ?_) #[true, true, true, true, true, true, true, false, true, true, true, false, false, false, false, false] rfl rfl (any_of HT_.out qz) (fun _ _ _ h => h) (Or.inl ⟨by rfl, ?_⟩) ?_ ?_
    rotate_left; (intro w'; go_simp; with_reducible rfl); rotate_left; (simp only [Act.put, aS, lZ, lS, i64_w, i32_w]; rfl)
    refine take_ (i := 7) (N := some 21) (v := .agg ceA.toArray) (a' := ?_) #[true, true, true, true, true, true, true, true, true, true, true, false, false, false, false, false] rfl rfl (take_ofW HT_.out HW_.out qz) iz (yieldsIf_load_mid (by rfl) 54 (.tmp 20) rfl go8 (x3_1.toNat * 22) (by first | rfl | (go_simp; rfl)) ceA _ (fun _ hs => hs.1) Try.underlying54 rfl (by rw [hlA]; rfl)) hHeld ?_ ?_
    rotate_left; (simp only [Act.put, aS, lZ, lS, i64_w, i32_w]; rfl)
    refine take_ (i := 11) (N := some 25) (v := .agg ceB.toArray) (a' := ?_) #[true, true, true, true, true, true, true, true, true, true, true, true, false, false, false, false] rfl rfl (take_ofW HT_.out HW_.out qz) iz (yieldsIf_load_mid (by rfl) 54 (.tmp 24) rfl go8 (x2_1.toNat * 22) (by first | rfl | (go_simp; rfl)) ceB _ (fun _ hs => hs.2) Try.underlying54 rfl (by rw [hlB]; rfl)) hHeld ?_ ?_
    rotate_left; (simp only [Act.put, aS, lZ, lS, i64_w, i32_w]; rfl)
    refine pure_ (i := 12) (N := some 26) (v := ?_) (a' := ?_) #[true, true, true, true, true, true, true, true, true, true, true, true, true, false, false, false] rfl rfl (any_of HT_.out qz) (fun _ _ _ h => h) (Or.inl ⟨by rfl, ?_⟩) ?_ ?_
    rotate_left; (intro w'; go_simp; with_reducible rfl); rotate_left; (simp only [Act.put, aS, lZ, lS, i64_w, i32_w]; rfl)
    refine last_ (i := 13) (N := none) #[true, true, true, true, true, true, true, true, true, true, true, true, true, true, false, false] rfl rfl (one_of HT_.out qz) (by decide) (fun K hK => ?_)
    rw [if_pos (by rfl)]
    refine wp_store_mid 54 (.tmp 26) (.tmp 21) rfl go8 (x2_1.toNat * 22) ceA.toArray (by first | rfl | (go_simp; rfl)) (by first | rfl | (go_simp; rfl)) T1 (by rw [List.size_toArray, hlA]; rfl) O1 ?_
    refine hK.out _ _ ?_
    clear hK K
    (try simp only [Act.put])
    refine pure_ (i := 14) (N := some 27) (v := ?_) (a' := ?_) #[true, true, true, true, true, true, true, true, true, true, true, true, true, true, true, false] rfl rfl (any_of HT_.out qz) (fun _ _ _ h => h) (Or.inl ⟨by rfl, ?_⟩) ?_ ?_
    rotate_left; (intro w'; go_simp; with_reducible rfl); rotate_left; (simp only [Act.put, aS, lZ, lS, i64_w, i32_w]; rfl)
    refine last_ (i := 15) (N := none) #[true, true, true, true, true, true, true, true, true, true, true, true, true, true, true, true] rfl rfl (one_of HT_.out qz) (by decide) (fun K hK => ?_)
    rw [if_pos (by rfl)]
    refine wp_store_mid 54 (.tmp 27) (.tmp 25) rfl go8 (x3_1.toNat * 22) ceB.toArray (by first | rfl | (go_simp; rfl)) (by first | rfl | (go_simp; rfl)) T2 (by rw [List.size_toArray, hlB]; rfl) O2 ?_
    refine hK.out _ _ ?_
    clear hK K
    (try simp only [Act.put])
    refine done_ (done_of HT_.out qz) ?_
    try go_wp2
    (try simp only [← hl0_1])
    go_roundg k1
    case measure => have := HK1.out; omega
    case rel => exact ⟨(y762), (wrap64 (x2_1 + 1)), (wrap64 (x3_1 - 1)), sz, sz, H', ⟨by have := HK1.out; omega⟩, ⟨by (try simp only [hl0_1]); (with_reducible repeat first | apply rA | apply rN | apply rD); exact HQ12.out⟩, ⟨by repeat (first | (with_reducible first | exact HK.out | apply Kept.alloc | apply Kept.drewN | apply Kept.drew) | exact HK.out)⟩, ⟨bz⟩⟩
   ·
    rw [if_neg c3] at H
    have c3b0 := decide_eq_false c3
    clear c3
    obtain rfl := Option.some.inj H
    go_wp2
    first | go_end0 | ((try simp only [Exit.inBlock, Exit.then]); refine bodyPost_ret (results_none rfl _ _ _) rfl ?_)
    exact ⟨ez, (by first | exact (rz HO_0) | (simp only [hl0_1]; exact (rz HO_0))), bz, by repeat (first | (with_reducible first | exact HK.out | apply Kept.alloc | apply Kept.drewN | apply Kept.drew) | exact HK.out)⟩

end Go.Proofs.Yteflngoiebgdaaa.X
