/- The statement CrcFrames over numbers and lists. -/
import Derived.Test.YtobehfghepbhbaaX32
import Derived.Test.YtobehfghepbhbaaCrcMany
namespace Go.Proofs.Ytobehfghepbhbaa.CrcImpl
open Go.RowKit Go.Proofs.YtobehfghepbhbaaW.PrintWords Go.Proofs.Ytobehfghepbhbaa.X Go.Proofs.Ytobehfghepbhbaa.WPlain Go.Proofs.Ytobehfghepbhbaa.WImpl Go.Proofs.Ytobehfghepbhbaa.Crc
set_option linter.unusedVariables false
set_option linter.unusedSimpArgs false
/-! ### a changed byte is found -/
theorem flip8 {a b : Int} (ha : 0 ≤ a ∧ a ≤ 255) (hb : 0 ≤ b ∧ b ≤ 255) (h0 : b ≠ 0) : (0 ≤ Go.bits .xor .u8 a b ∧ Go.bits .xor .u8 a b ≤ 255) ∧ Go.bits .xor .u8 a b ≠ a := by
  have h1 : a.toNat ^^^ b.toNat < 256 := Nat.xor_lt_two_pow (n := 8) (by omega) (by omega)
  rw [u8_xor a b ha.1 (by omega) hb.1 (by omega)]
  refine ⟨⟨by omega, by omega⟩, fun h => ?_⟩
  have h2 : a.toNat ^^^ b.toNat = a.toNat ^^^ 0 := by rw [Nat.xor_zero]; omega
  have := xor_left h2
  omega
theorem un4_set (s : Nat) (hs : s < 4294967296) (r : List Int) (p : Nat) (hp : p < 4) (v : Int) (h0 : 0 ≤ v) (h1 : v ≤ 255) (hne : v ≠ (fourb s).getD p 0) : un4 ((fourb s).set p v ++ r) ≠ s := by
  have hc : p = 0 ∨ p = 1 ∨ p = 2 ∨ p = 3 := by omega
  rcases hc with rfl | rfl | rfl | rfl
  · have e : v ≠ ((s % 256 : Nat) : Int) := hne
    show v.toNat + 256 * (((s / 256 % 256 : Nat) : Int)).toNat + 65536 * (((s / 65536 % 256 : Nat) : Int)).toNat + 16777216 * (((s / 16777216 % 256 : Nat) : Int)).toNat ≠ s
    simp only [Int.toNat_natCast]
    omega
  · have e : v ≠ ((s / 256 % 256 : Nat) : Int) := hne
    show (((s % 256 : Nat) : Int)).toNat + 256 * v.toNat + 65536 * (((s / 65536 % 256 : Nat) : Int)).toNat + 16777216 * (((s / 16777216 % 256 : Nat) : Int)).toNat ≠ s
    simp only [Int.toNat_natCast]
    omega
  · have e : v ≠ ((s / 65536 % 256 : Nat) : Int) := hne
    show (((s % 256 : Nat) : Int)).toNat + 256 * (((s / 256 % 256 : Nat) : Int)).toNat + 65536 * v.toNat + 16777216 * (((s / 16777216 % 256 : Nat) : Int)).toNat ≠ s
    simp only [Int.toNat_natCast]
    omega
  · have e : v ≠ ((s / 16777216 % 256 : Nat) : Int) := hne
    show (((s % 256 : Nat) : Int)).toNat + 256 * (((s / 256 % 256 : Nat) : Int)).toNat + 65536 * (((s / 65536 % 256 : Nat) : Int)).toNat + 16777216 * v.toNat ≠ s
    simp only [Int.toNat_natCast]
    omega
/-- A frame of which one byte behind its length is another. -/
theorem opn_set (c r : List Int) (hb : BY c) (hl : c.length ≤ 65536) (p : Nat) (hp : p < 4 + c.length) (v : Int) (h0 : 0 ≤ v) (h1 : v ≤ 255) (hne : v ≠ (frm c).getD ((enc c.length).length + p) 0) :
    (opn ((frm c).set ((enc c.length).length + p) v ++ r)).2.2 = 14 := by
  have h64 : I64 (c.length : Int) := ⟨by omega, by omega⟩
  have hE : BY (enc (c.length : Int)) := enc_bytes _
  have hs : ext 0 (enc c.length ++ c) < 4294967296 := ext_lt (by omega) (by
    intro x hx
    rcases List.mem_append.1 hx with h | h
    · exact hE x h
    · exact hb x h)
  have e0 : frm c = enc c.length ++ (fourb (ext 0 (enc c.length ++ c)) ++ c) := by
    unfold frm
    simp only [List.append_assoc]
  obtain ⟨s, hse⟩ : ∃ s, ext 0 (enc c.length ++ c) = s := ⟨_, rfl⟩
  rw [hse] at hs e0
  have hYl : ((fourb s ++ c).set p v).length = 4 + c.length := by rw [List.length_set, List.length_append]; rfl
  have e1 : (frm c).set ((enc c.length).length + p) v ++ r = enc c.length ++ ((fourb s ++ c).set p v ++ r) := by
    rw [e0, List.set_append_right _ _ (by omega), Nat.add_sub_cancel_left, List.append_assoc]
  have hne2 : v ≠ (fourb s ++ c).getD p 0 := by
    intro h
    apply hne
    rw [e0, List.getD_eq_getElem?_getD, List.getElem?_append_right (by omega), Nat.add_sub_cancel_left, ← List.getD_eq_getElem?_getD]
    exact h
  rw [e1]
  have ht : tki (enc c.length ++ ((fourb s ++ c).set p v ++ r)) = ((c.length : Int), ((enc (c.length : Int)).length : Int), 0) := tki_enc _ h64 _
  have htl : (enc c.length ++ ((fourb s ++ c).set p v ++ r)).length = (enc (c.length : Int)).length + (4 + c.length + r.length) := by rw [List.length_append, List.length_append, hYl]
  have d1 : (enc c.length ++ ((fourb s ++ c).set p v ++ r)).drop (enc c.length).length = (fourb s ++ c).set p v ++ r := List.drop_left
  have t1 : (enc c.length ++ ((fourb s ++ c).set p v ++ r)).take (enc c.length).length = enc c.length := List.take_left
  have d2 : (enc c.length ++ ((fourb s ++ c).set p v ++ r)).drop ((enc c.length).length + 4) = ((fourb s ++ c).set p v ++ r).drop 4 := by rw [← List.drop_drop, d1]
  unfold opn
  rw [ht]
  dsimp only
  rw [if_pos rfl, if_neg (by omega), if_neg (by omega), if_neg (by omega), Int.toNat_natCast, Int.toNat_natCast, d1, d2, t1]
  rw [if_neg]
  by_cases hp4 : p < 4
  · have e2 : (fourb s ++ c).set p v = (fourb s).set p v ++ c := List.set_append_left _ _ (by show p < 4; exact hp4)
    have hg : (fourb s ++ c).getD p 0 = (fourb s).getD p 0 := by rw [List.getD_eq_getElem?_getD, List.getElem?_append_left (by show p < 4; exact hp4), ← List.getD_eq_getElem?_getD]
    have hl4 : ((fourb s).set p v).length = 4 := by rw [List.length_set]; rfl
    rw [e2, List.append_assoc, show (((fourb s).set p v) ++ (c ++ r)).drop 4 = c ++ r from by rw [← hl4, List.drop_left], List.take_left, hse]
    rw [hg] at hne2
    exact fun h => un4_set s hs (c ++ r) p hp4 v h0 h1 hne2 h.symm
  · obtain ⟨q, rfl⟩ : ∃ q, p = 4 + q := ⟨p - 4, by omega⟩
    have hq : q < c.length := by omega
    have e2 : (fourb s ++ c).set (4 + q) v = fourb s ++ c.set q v := by
      rw [List.set_append_right _ _ (by show 4 ≤ 4 + q; omega)]
      congr 2
      show 4 + q - 4 = q
      omega
    have hg : (fourb s ++ c).getD (4 + q) 0 = c[q] := by
      rw [List.getD_eq_getElem?_getD, List.getElem?_append_right (by show 4 ≤ 4 + q; omega), show 4 + q - (fourb s).length = q by show 4 + q - 4 = q; omega, List.getElem?_eq_getElem hq]
      rfl
    rw [hg] at hne2
    rw [e2, List.append_assoc, un4_fourb s hs, show (fourb s ++ (c.set q v ++ r)).drop 4 = c.set q v ++ r from rfl, List.take_append_of_le_length (by rw [List.length_set]; omega), List.take_of_length_le (by rw [List.length_set]; omega)]
    have ec : c = c.take q ++ c[q] :: c.drop (q + 1) := by rw [← List.drop_eq_getElem_cons hq, List.take_append_drop]
    have es : c.set q v = c.take q ++ v :: c.drop (q + 1) := List.set_eq_take_append_cons_drop.trans (by rw [if_pos hq])
    intro h
    refine ext_change (s := 0) (p := enc c.length ++ c.take q) (q := c.drop (q + 1)) (c := v) (d := c[q]) (by omega) ?_ ?_ ⟨h0, h1⟩ (hb _ (List.getElem_mem hq)) hne2 ?_
    · intro x hx
      rcases List.mem_append.1 hx with h | h
      · exact hE x h
      · exact hb x (List.mem_of_mem_take h)
    · exact fun x hx => hb x (List.mem_of_mem_drop hx)
    · rw [List.append_assoc, List.append_assoc, ← es, ← ec, h, hse]
/-! ### the statement's walk -/
def Bs (L : List (List Int)) (i : Nat) : List Int := (List.range i).map fun j => ((fms (L.take j)).length : Int)
theorem Bs_succ (L : List (List Int)) (i : Nat) : Bs L (i + 1) = Bs L i ++ [((fms (L.take i)).length : Int)] := by unfold Bs; rw [List.range_succ, List.map_append]; rfl
theorem Bs_len (L : List (List Int)) (i : Nat) : (Bs L i).length = i := by simp [Bs]
theorem Bs_rd (L : List (List Int)) (n i : Nat) (h : i < n) : rd (Bs L n) (i : Int) = ((fms (L.take i)).length : Int) := by
  have hd : (Bs L n).drop i = ((fms (L.take i)).length : Int) :: (Bs L n).drop (i + 1) := by
    rw [List.drop_eq_getElem_cons (by rw [Bs_len]; exact h)]
    congr 1
    simp [Bs]
  exact (rd_of_drop hd).1
theorem frames_l0 (L : List (List Int)) (hL : Fine L) (a b e : Int) : ∀ (d i m : Nat), i + d = L.length → 6000 ≤ m → dancestudiolaw08_CrcFrames.l0 (m + d) L a b e (fms (L.take i)) (Bs L i) (i : Int) = dancestudiolaw08_CrcFrames.l0 m L a b e (fms L) (Bs L L.length) (L.length : Int) := by
  intro d
  induction d with
  | zero =>
    intro i m h hm
    obtain rfl : i = L.length := by omega
    rw [List.take_length]
    rfl
  | succ d ih =>
    intro i m h hm
    have hi : i < L.length := by omega
    have hc := hL.2 L[i] (List.getElem_mem hi)
    have h1 := fms_le (L.take i) (hL.take i)
    have h2 := frm_le L[i] hc.2
    have h3 : (L.take i).length = i := by rw [List.length_take]; omega
    have h4 := hL.1
    rw [← Nat.add_assoc, dancestudiolaw08_CrcFrames.l0, if_pos (by omega), if_pos (by omega), rdL hi, frame_f _ _ hc.1 (by omega) (by omega), if_neg (by omega), Option.bind_some]
    dsimp only
    rw [if_pos rfl, if_pos (by rw [Bs_len]; omega), if_pos (by omega), ← take_fms hi, ← Bs_succ, w64 (x := (i : Int) + 1) (by omega) (by omega), show (i : Int) + 1 = ((i + 1 : Nat) : Int) by omega]
    exact ih (i + 1) m (by omega) hm
theorem frames_j4 (L : List (List Int)) (hL : Fine L) (w p : Nat) (e : Int) (he0 : 0 < e) (he1 : e ≤ 255) (hw : w < L.length) (hp : p < 4 + L[w].length) (k : Nat) (hk : 80000 ≤ k) :
    dancestudiolaw08_CrcFrames.j4 (k + 1) L (w : Int) (p : Int) e (fms L) (Bs L L.length) ((enc (L[w].length : Int)).length : Int) false = some true := by
  have hle := fms_le L hL.2
  have h12 := hL.1
  have hBY := fms_BY L hL.2
  have hc := hL.2 L[w] (List.getElem_mem hw)
  have hfl := frm_len L[w]
  have hen := enc_len (L[w].length : Int) ⟨by omega, by omega⟩
  have ef : fms L = fms (L.take w) ++ (frm L[w] ++ fms (L.drop (w + 1))) := by
    rw [← List.append_assoc, ← take_fms hw, ← fms_app, List.take_append_drop]
  have hlen : (fms L).length = (fms (L.take w)).length + ((frm L[w]).length + (fms (L.drop (w + 1))).length) := by rw [ef, List.length_append, List.length_append]
  have hat : wrap64 (wrap64 (((fms (L.take w)).length : Int) + ((enc (L[w].length : Int)).length : Int)) + (p : Int)) = (((fms (L.take w)).length + ((enc (L[w].length : Int)).length + p) : Nat) : Int) := by
    rw [w64 (x := ((fms (L.take w)).length : Int) + ((enc (L[w].length : Int)).length : Int)) (by omega) (by omega), w64 (by omega) (by omega)]
    omega
  rw [dancestudiolaw08_CrcFrames.j4, if_neg (by simp), if_pos (by omega), if_pos (by rw [Bs_len]; omega), Bs_rd L _ w hw, hat]
  clear hat
  rw [if_neg (by omega), if_pos (by omega), if_pos (by omega), Option.bind_some, if_pos (by omega), if_pos (by omega), Int.toNat_natCast, Int.toNat_natCast]
  -- the byte and its change
  obtain ⟨old, hold, hob, hget⟩ : ∃ old, rd (fms L) (((fms (L.take w)).length + ((enc (L[w].length : Int)).length + p) : Nat) : Int) = old ∧ (0 ≤ old ∧ old ≤ 255) ∧ (frm L[w]).getD ((enc (L[w].length : Int)).length + p) 0 = old := by
    have hlt : (fms (L.take w)).length + ((enc (L[w].length : Int)).length + p) < (fms L).length := by omega
    have hd := (rd_of_drop (List.drop_eq_getElem_cons hlt)).1
    refine ⟨_, hd, hBY _ (List.getElem_mem hlt), ?_⟩
    rw [List.getD_eq_getElem?_getD, List.getElem?_eq_getElem (by omega)]
    show (frm L[w])[(enc (L[w].length : Int)).length + p] = _
    have : (fms L)[(fms (L.take w)).length + ((enc (L[w].length : Int)).length + p)]? = (frm L[w])[(enc (L[w].length : Int)).length + p]? := by
      rw [ef, List.getElem?_append_right (by omega), Nat.add_sub_cancel_left, List.getElem?_append_left (by omega)]
    rw [List.getElem?_eq_getElem hlt, List.getElem?_eq_getElem (by omega)] at this
    exact (Option.some.inj this).symm
  rw [hold]
  obtain ⟨⟨v0, v1⟩, vne⟩ := flip8 hob ⟨by omega, he1⟩ (show e ≠ 0 by omega)
  generalize Go.bits .xor .u8 old e = v at v0 v1 vne ⊢
  have hset : (fms L).set ((fms (L.take w)).length + ((enc (L[w].length : Int)).length + p)) v = fms (L.take w) ++ ((frm L[w]).set ((enc (L[w].length : Int)).length + p) v ++ fms (L.drop (w + 1))) := by
    rw [ef, List.set_append_right _ _ (by omega), Nat.add_sub_cancel_left, List.set_append_left _ _ (by omega)]
  have hop := opn_set L[w] (fms (L.drop (w + 1))) hc.1 (by omega) p hp v v0 v1 (by rw [hget]; exact vne)
  have hsl : ((fms L).set ((fms (L.take w)).length + ((enc (L[w].length : Int)).length + p)) v).length = (fms L).length := List.length_set
  have hsB : BY ((fms L).set ((fms (L.take w)).length + ((enc (L[w].length : Int)).length + p)) v) := by
    intro y hy
    rcases List.mem_or_eq_of_mem_set hy with h | h
    · exact hBY y h
    · subst h; exact ⟨v0, v1⟩
  rw [hset] at hsl hsB ⊢
  generalize (frm L[w]).set ((enc (L[w].length : Int)).length + p) v ++ fms (L.drop (w + 1)) = T at hop hsl hsB ⊢
  have hTB : BY T := fun y hy => hsB y (by simp [hy])
  rw [List.length_append] at hsl
  have htk : (L.take w).length ≤ 12 := by rw [List.length_take]; omega
  rw [List.drop_left, open_f k T hTB (by omega) (by omega), Option.bind_some, all_f k (5100 + (L.take w).length) _ hsB (by rw [List.length_append]; omega) (by rw [List.length_append]; omega) (by rw [List.length_append]; omega), Option.bind_some]
  have hal : alls (5100 + (L.take w).length) (fms (L.take w) ++ T) = (L.take w, ((fms (L.take w)).length : Int)) := by
    rw [alls_fms T (L.take w) 5100 (hL.take w), alls_stop 5100 T (by rw [hop]; decide)]
    simp
  rw [hal, hop, if_pos rfl, if_pos (by omega), Int.toNat_natCast]
  dsimp only
  rw [lists_f k _ (by omega) (by omega), Option.bind_some, if_pos rfl, if_pos rfl, awake_f k (by omega), Option.bind_some]
theorem enc_head (n : Nat) (h : n ≤ 400) : (enc (n : Int)).length = if n < 64 then 1 else 2 := by
  have e : zz (n : Int) = 2 * n := by
    unfold zz
    rw [if_neg (by omega)]
    omega
  unfold enc
  rw [e]
  by_cases hs : n < 64
  · rw [if_pos hs, vi_small _ (by omega)]
    rfl
  · rw [if_neg hs, vi_big _ (by omega), vi_small _ (by omega)]
    rfl
end Go.Proofs.Ytobehfghepbhbaa.CrcImpl
namespace Go.Proofs.Ytobehfghepbhbaa.Pure
open Go.RowKit Go.Proofs.YtobehfghepbhbaaW.PrintWords Go.Proofs.Ytobehfghepbhbaa.X Go.Proofs.Ytobehfghepbhbaa.WPlain Go.Proofs.Ytobehfghepbhbaa.WImpl Go.Proofs.Ytobehfghepbhbaa.Crc Go.Proofs.Ytobehfghepbhbaa.CrcImpl
set_option linter.unusedVariables false
set_option linter.unusedSimpArgs false
theorem CrcFrames (L : List (List Int)) (a b e : Int) (g0 : (L.length ≤ maxLen ∧ ∀ y ∈ L, (y.length ≤ maxLen ∧ ∀ z ∈ y, (Lit.int .u8 z).wf = true))) (g3 : (Lit.int .u8 e).wf = true) : ∃ k, X.dancestudiolaw08_CrcFrames.f k L a b e = some true := by
  refine ⟨100000 + L.length, ?_⟩
  generalize hk : 100000 = k
  have hB := bysL g0
  obtain ⟨e0, e1⟩ := wfu8 g3
  unfold dancestudiolaw08_CrcFrames.f
  rcases great_f (k + L.length) L (by omega) hB with h | ⟨h, hL⟩
  · rw [h, Option.bind_some, if_pos rfl, awake_f _ (by omega), Option.bind_some]
  · rw [h, Option.bind_some, if_neg (by simp)]
    have h0 := frames_l0 L hL a b e L.length 0 k (by omega) (by omega)
    refine Eq.trans h0 ?_
    clear h0
    have h12 := hL.1
    have hle := fms_le L hL.2
    have hBY := fms_BY L hL.2
    obtain ⟨k, rfl⟩ : ∃ m, k = m + 6 := ⟨k - 6, by omega⟩
    have hal : alls (5100 + L.length) (fms L) = (L, ((fms L).length : Int)) := by
      have := alls_fms [] L 5100 hL.2
      rw [List.append_nil, alls_stop 5100 [] (by rw [opn_nil]; decide)] at this
      rw [this]
      simp
    rw [dancestudiolaw08_CrcFrames.l0, if_neg (by omega), all_f (k + 5) (5100 + L.length) _ hBY (by omega) (by omega) (by omega), hal, Option.bind_some]
    dsimp only
    rw [lists_f (k + 5) L (by omega) (by omega), Option.bind_some, if_pos rfl, show (((fms L).length : Int) != ((fms L).length : Int)) = false by simp, dancestudiolaw08_CrcFrames.j1, if_neg (by simp)]
    have hj2 : dancestudiolaw08_CrcFrames.j2 (k + 4) L a b e (fms L) (Bs L L.length) true = some true := by
      rw [dancestudiolaw08_CrcFrames.j2, if_pos rfl, awake_f (k + 3) (by omega), Option.bind_some]
    have hj4 : ∀ h, dancestudiolaw08_CrcFrames.j4 (k + 2) L a b e (fms L) (Bs L L.length) h true = some true := by
      intro h
      rw [dancestudiolaw08_CrcFrames.j4, if_pos rfl, awake_f (k + 1) (by omega), Option.bind_some]
    by_cases h1 : (L.length : Int) = 0
    · rw [if_pos h1, hj2]
    · rw [if_neg h1]
      by_cases h2 : a < 0
      · rw [if_pos h2, hj2]
      · rw [if_neg h2]
        by_cases h3 : a ≥ (L.length : Int)
        · rw [if_pos h3, hj2]
        · rw [if_neg h3]
          by_cases h4 : e = 0
          · rw [show (e == 0) = true by simpa using h4, hj2]
          · obtain ⟨w, rfl⟩ : ∃ w : Nat, a = (w : Int) := ⟨a.toNat, by omega⟩
            have hw : w < L.length := by omega
            have hc := hL.2 L[w] (List.getElem_mem hw)
            have hh := enc_head L[w].length hc.2
            rw [show (e == 0) = false by simpa using h4, dancestudiolaw08_CrcFrames.j2, if_neg (by simp), if_pos (by omega), if_pos (by omega), rdL hw]
            have hj3 : dancestudiolaw08_CrcFrames.j3 (k + 3) L (w : Int) b e (fms L) (Bs L L.length) ((enc (L[w].length : Int)).length : Int) = some true := by
              rw [dancestudiolaw08_CrcFrames.j3]
              by_cases h5 : b < 0
              · rw [if_pos h5, hj4]
              · rw [if_neg h5, if_pos (by omega), if_pos (by omega), rdL hw, w64 (x := 4 + ((L[w].length : Nat) : Int)) (by omega) (by omega)]
                by_cases h6 : b ≥ 4 + ((L[w].length : Nat) : Int)
                · rw [decide_eq_true h6, hj4]
                · rw [decide_eq_false h6]
                  obtain ⟨p, rfl⟩ : ∃ p : Nat, b = (p : Int) := ⟨b.toNat, by omega⟩
                  exact frames_j4 L hL w p e (by omega) e1 hw (by omega) (k + 1) (by omega)
            by_cases h7 : ((L[w].length : Nat) : Int) ≥ 64
            · rw [if_pos h7]
              rw [if_neg (by omega)] at hh
              rw [hh] at hj3
              exact hj3
            · rw [if_neg h7]
              rw [if_pos (by omega)] at hh
              rw [hh] at hj3
              exact hj3
end Go.Proofs.Ytobehfghepbhbaa.Pure
