/- The stable sort, walked. -/
import Derived.Test.YtekbeaogiagidaaSoMerge
namespace Go.Proofs.Ytekbeaogiagidaa.So
set_option linter.unusedVariables false
set_option linter.unusedSimpArgs false
open Go.Shelf Go.RowKit Go.Lib Go.Sort
set_option maxHeartbeats 32000000 in
set_option maxRecDepth 1000000 in
theorem stable_calls (w0 w : World) (blk cap N g : Nat) (cb : Array Value) (cf : Nat → Nat → Int) (pr : Nat → Nat → Prop) (R : Row w0 blk N) (eg : ∀ args w, (callFunc g args).run Try.prog w = .ok (.enter g args) w) (C : CmpOk g cb cf w0 blk N) (O : Ord cf N pr) (hw : At w0 blk (List.range' 0 N).toArray w) :
    Calls Try.prog 30 #[.slice (some ⟨blk, 0, none⟩) N cap, .int .i64 (N : Int), .func (.func g) #[] cb] w fun e w' => e = .returned (.tuple #[]) ∧ ∃ L, Seg pr 0 N L ∧ At w0 blk L.toArray w' := by
  have hfew := R.few
  have INS : Aside _ := ins_seg w0 (blk := blk) (cap := cap) (N := N) (g := g) (cb := cb) (cf := cf) (pr := pr) (R := R) (eg := eg) (C := C) (O := O)
  have MER : Aside _ := merge_seg w0 (blk := blk) (cap := cap) (N := N) (g := g) (cb := cb) (cf := cf) (pr := pr) (R := R) (eg := eg) (C := C) (O := O)
  have END : Aside _ := merge_end w0 (blk := blk) (cap := cap) (N := N) (g := g) (cb := cb) (cf := cf) (pr := pr) (R := R) (eg := eg) (C := C) (O := O)
  have S0 : Aside (At w0 blk ([] ++ List.range' 0 (N - 0)).toArray w) := hw
  clear C O hw
  go_enter Try.func30, Try.ntmps30
  go_wp2
  go_loopg [7, 8] N (fun gq s7 s8 wr => ∃ (a : Nat) (X : List Nat), s7 = .int .i64 (a : Int) ∧ s8 = .int .i64 ((a : Int) + 20) ∧ a ≤ N ∧ N - a ≤ gq ∧ Aside (X.length = a) ∧ Aside (Full pr 20 X) ∧ Aside (At w0 blk (X ++ List.range' a (N - a)).toArray wr))
  case atStart => exact ⟨0, [], by go_num, by go_num, Nat.zero_le _, by omega, (show Aside (([] : List Nat).length = 0) from rfl), (show Aside (Full pr 20 []) from .nil), S0⟩
  case round =>
    clear S0
    obtain ⟨a, X, rfl, rfl, haN, hg, HL, HF, S1⟩ := hrel
    by_cases hle : a + 20 ≤ N
    · have hle2 : (a : Int) + 20 ≤ (N : Int) := by omega
      have wb : IntKind.i64.wrap ((a : Int) + 20 + 20) = (a : Int) + 20 + 20 := by rw [IntKind.wrap_i64]; omega
      have HLE : Aside (a + 20 ≤ N) := hle
      go_wp2_with fail
      go_at_call 37
      refine (INS.out _ X a 20 _ HL.out HF.out.perm HLE.out (by omega) S1.out).mono ?_
      rintro e' w2 ⟨rfl, P, hP, hS⟩
      have S2 : Aside (At w0 blk ((X ++ P) ++ List.range' (a + 20) (N - (a + 20))).toArray w2) := by show At _ _ _ _; rw [List.append_assoc]; exact hS
      have HF2 : Aside (Full pr 20 (X ++ P)) := .snoc HF.out (by rw [HL.out]; exact hP)
      have HL2 : Aside ((X ++ P).length = a + 20) := by show _ = _; rw [List.length_append, HL.out, hP.length]
      clear hP hS S1 HF HL
      go_wp2
      go_roundg (N - (a + 20))
      case measure => omega
      case rel => exact ⟨a + 20, X ++ P, by go_num, by go_num, HLE.out, Nat.le_refl _, HL2, HF2, S2⟩
    · have hle2 : ¬ (a : Int) + 20 ≤ (N : Int) := by omega
      have HLE : Aside (¬ a + 20 ≤ N) := hle
      go_wp2_with fail
      go_at_call 37
      refine (INS.out _ X a (N - a) _ HL.out HF.out.perm (by omega) (by omega) S1.out).mono ?_
      rintro e' w2 ⟨rfl, P, hP, hS⟩
      have S2 : Aside (At w0 blk (X ++ P).toArray w2) := by
        show At _ _ _ _
        rw [show N - (a + (N - a)) = 0 by omega, List.range'_zero, List.append_nil] at hS
        exact hS
      have HR : Aside (Runs pr 20 0 (X ++ P)) := HF.out.fuse (.last (by rw [HL.out]; exact hP) (by have := HLE.out; omega))
      have HN : Aside ((X ++ P).length = N) := by show _ = _; rw [List.length_append, HL.out, hP.length]; omega
      clear hP hS S1 HF HL hle2 HLE hle INS
      generalize X ++ P = L0 at S2 HR HN
      go_wp2
      go_loopg [6, 7, 8] N (fun gq s6 s7 s8 wr => ∃ (bs : Nat) (L : List Nat), s6 = .int .i64 (bs : Int) ∧ 20 ≤ bs ∧ N - bs ≤ gq ∧ Aside (Runs pr bs 0 L) ∧ Aside (L.length = N) ∧ Aside (At w0 blk L.toArray wr))
      case atStart => exact ⟨20, L0, by go_num, Nat.le_refl _, by omega, HR, HN, S2⟩
      case round =>
        clear S2 HR HN
        obtain ⟨bs, L, rfl, hbs, hg2, HR, HN, S2⟩ := hrel
        by_cases hlt : bs < N
        · have hlt2 : (bs : Int) < (N : Int) := by omega
          have wm : IntKind.i64.wrap (2 * (bs : Int)) = 2 * (bs : Int) := by rw [IntKind.wrap_i64]; omega
          have wm2 : IntKind.i64.wrap ((bs : Int) * 2) = 2 * (bs : Int) := by rw [IntKind.wrap_i64]; omega
          have HLT : Aside (bs < N) := hlt
          have S3 : Aside (At w0 blk ([] ++ L).toArray wr) := S2.out
          have HR3 : Aside (Runs pr bs 0 L) := HR.out
          have HN3 : Aside (0 + L.length = N) := by show _ = _; rw [Nat.zero_add]; exact HN.out
          clear S2 HR HN hlt
          go_wp2
          go_loopg [7, 8] N (fun gq s7 s8 wr => ∃ (a : Nat) (X Y : List Nat), s7 = .int .i64 (a : Int) ∧ s8 = .int .i64 ((a : Int) + 2 * (bs : Int)) ∧ a ≤ N ∧ N - a ≤ gq ∧ Aside (X.length = a) ∧ Aside (Full pr (2 * bs) X) ∧ Aside (Runs pr bs a Y) ∧ Aside (a + Y.length = N) ∧ Aside (At w0 blk (X ++ Y).toArray wr))
          case atStart => exact ⟨0, [], L, by go_num, by go_num, Nat.zero_le _, by omega, (show Aside (([] : List Nat).length = 0) from rfl), (show Aside (Full pr (2 * bs) []) from .nil), HR3, HN3, S3⟩
          case round =>
            clear S3 HR3 HN3
            obtain ⟨a, X, Y, rfl, rfl, haN, hg3, HL, HF, HR, HN, S1⟩ := hrel
            have hlt := HLT.out
            by_cases hle : a + 2 * bs ≤ N
            · have hle2 : (a : Int) + 2 * (bs : Int) ≤ (N : Int) := by omega
              have wb : IntKind.i64.wrap ((a : Int) + 2 * (bs : Int) + 2 * (bs : Int)) = (a : Int) + 2 * (bs : Int) + 2 * (bs : Int) := by rw [IntKind.wrap_i64]; omega
              have wa : IntKind.i64.wrap ((a : Int) + (bs : Int)) = (a : Int) + (bs : Int) := by rw [IntKind.wrap_i64]; omega
              have HLE : Aside (a + 2 * bs ≤ N) := hle
              have HB : Aside (0 < bs) := by show 0 < bs; omega
              clear hle hlt
              go_wp2_with fail
              go_at_call 38
              refine (MER.out _ bs X Y a HL.out HF.out HR.out HN.out HB.out HLE.out S1.out).mono ?_
              rintro e' w2 ⟨rfl, X2, Y2, hX2, hF2, hR2, hN2, hS⟩
              have S2 : Aside _ := hS
              have HL2 : Aside _ := hX2
              have HF2 : Aside _ := hF2
              have HR2 : Aside _ := hR2
              have HN2 : Aside _ := hN2
              clear hX2 hF2 hR2 hN2 hS S1 HF HL HR HN
              go_wp2
              go_roundg (N - (a + 2 * bs))
              case measure => have := HLE.out; have := HB.out; omega
              case rel => exact ⟨a + 2 * bs, X2, Y2, by go_num, by go_num, HLE.out, Nat.le_refl _, HL2, HF2, HR2, HN2, S2⟩
            · have hle2 : ¬ (a : Int) + 2 * (bs : Int) ≤ (N : Int) := by omega
              have wa : IntKind.i64.wrap ((a : Int) + (bs : Int)) = (a : Int) + (bs : Int) := by rw [IntKind.wrap_i64]; omega
              have HLE : Aside (¬ a + 2 * bs ≤ N) := hle
              have HB : Aside (0 < bs) := by show 0 < bs; omega
              by_cases hm : a + bs < N
              · have hm2 : (a : Int) + (bs : Int) < (N : Int) := by omega
                have HM : Aside (a + bs < N) := hm
                clear hle hlt hm
                go_wp2_with fail
                go_at_call 38
                refine (END.out _ bs X Y a HL.out HF.out HR.out HN.out HB.out HLE.out HM.out S1.out).mono ?_
                rintro e' w2 ⟨rfl, L2, hR2, hN2, hS⟩
                have S2 : Aside _ := hS
                have HR2 : Aside _ := hR2
                have HN2 : Aside _ := hN2
                clear hR2 hN2 hS S1 HF HL HR HN
                go_wp2
                go_roundg (N - 2 * bs)
                case measure => have := HLT.out; have := HB.out; omega
                case rel => exact ⟨2 * bs, L2, by go_num, by omega, Nat.le_refl _, HR2, HN2, S2⟩
              · have hm2 : ¬ (a : Int) + (bs : Int) < (N : Int) := by omega
                have H2 := merge_none HL.out HF.out HR.out HN.out hm
                have HR2 : Aside _ := H2.1
                have HN2 : Aside _ := H2.2
                clear hle hlt hm H2 HF HL HR HN
                go_wp2
                go_roundg (N - 2 * bs)
                case measure => have := HLT.out; have := HB.out; omega
                case rel => exact ⟨2 * bs, X ++ Y, by go_num, by omega, Nat.le_refl _, HR2, HN2, S1⟩
        · have hlt2 : ¬ (bs : Int) < (N : Int) := by omega
          have HS : Aside (Seg pr 0 N L) := by
            have h := HR.out.single (by rw [HN.out]; omega)
            rw [HN.out] at h
            exact h
          clear HR HN
          go_wp2
          go_end0
          exact ⟨rfl, L, HS.out, S2.out⟩
end Go.Proofs.Ytekbeaogiagidaa.So
