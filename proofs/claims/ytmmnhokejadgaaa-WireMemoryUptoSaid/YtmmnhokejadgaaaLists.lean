/- What is written is read back, what is read was written so, and what is cut off is truncated: texts and lists. -/
import Derived.Test.YtmmnhokejadgaaaLawsN
import Derived.Test.YtmmnhokejadgaaaXOpen
namespace Go.Proofs.Ytmmnhokejadgaaa.WImpl
open Go.RowKit Go.Proofs.YtmmnhokejadgaaaW.PrintWords Go.Proofs.Ytmmnhokejadgaaa.X Go.Proofs.Ytmmnhokejadgaaa.WPlain
set_option linter.unusedVariables false

theorem tki_enc (n : Int) (h : I64 n) (r : List Int) : tki (enc n ++ r) = (n, ((enc n).length : Int), 0) := by
  unfold enc
  rw [tki_vi _ (zz_lt n h.1 h.2), unzz_zz]
theorem tki_enc_cut (n : Int) (j : Nat) (hj : j < (enc n).length) : tki ((enc n).take j) = (0, 0, 13) := tki_cut _ j hj
theorem tki_back (l : List Int) (hb : BY l) (h : (tki l).2.2 = 0) : I64 (tki l).1 ∧ l.take (tki l).2.1.toNat = enc (tki l).1 ∧ l = enc (tki l).1 ++ l.drop (tki l).2.1.toNat ∧ (tki l).2.1 = ((enc (tki l).1).length : Int) := by
  obtain ⟨u, r, hu, h1, h2⟩ := tki_once l hb h
  rw [h2]
  simp only [Int.toNat_natCast]
  have e : enc (unzz u) = vi u := by unfold enc; rw [zz_unzz]
  refine ⟨unzz_range u hu, ?_, ?_, ?_⟩
  · rw [e, h1]; simp
  · rw [e]
    conv => lhs; rw [h1]
    conv => rhs; rw [h1]
    simp
  · rw [e]
theorem tkls_len : ∀ (n : Nat) (b : List Int), ((tkls n b).1.length : Int) ≤ b.length ∧ 0 ≤ (tkls n b).2.1 ∧ (tkls n b).2.1 ≤ b.length := by
  intro n
  induction n with
  | zero => intro b; simp [tkls]
  | succ n ih =>
    intro b
    have hl := tki_len b
    simp only [tkls]
    by_cases h : (tki b).2.2 = 0
    · have ht := tki_taken b h
      obtain ⟨i1, i2, i3⟩ := ih (b.drop (tki b).2.1.toNat)
      rw [List.length_drop] at i1 i3
      rw [if_pos h]
      by_cases h2 : (tkls n (b.drop (tki b).2.1.toNat)).2.2 = 0
      · rw [if_pos h2]
        simp only [List.length_cons]
        omega
      · rw [if_neg h2]; simp
    · rw [if_neg h]; simp
theorem tkls_bad : ∀ (n : Nat) (b : List Int), (tkls n b).2.2 ≠ 0 → (tkls n b).1 = [] ∧ (tkls n b).2.1 = 0 := by
  intro n b h
  cases n with
  | zero => simp [tkls] at h
  | succ n =>
    simp only [tkls] at h ⊢
    by_cases h1 : (tki b).2.2 = 0
    · rw [if_pos h1] at h ⊢
      by_cases h2 : (tkls n (b.drop (tki b).2.1.toNat)).2.2 = 0
      · rw [if_pos h2] at h; simp at h
      · rw [if_neg h2]; simp
    · rw [if_neg h1]; simp
theorem tkl_len (l : List Int) (most : Int) : ((tkl l most).1.length : Int) ≤ l.length := by
  unfold tkl fin
  split
  · have := tkls_len (cnt l most).1.toNat (l.drop (cnt l most).2.1.toNat)
    rw [List.length_drop] at this
    split
    · simp only [List.nil_append]; omega
    · simp
  · simp
theorem tkls_ok (r : List Int) : ∀ (L : List Int), I64s L → tkls L.length (encs L ++ r) = (L, ((encs L).length : Int), 0) := by
  intro L
  induction L with
  | nil => intro _; simp [tkls, encs]
  | cons x L ih =>
    intro h
    have hx := h x (by simp)
    have hi := ih (fun y hy => h y (by simp [hy]))
    have e : encs (x :: L) = enc x ++ encs L := by simp [encs]
    rw [e, List.append_assoc, List.length_cons]
    simp only [tkls]
    rw [tki_enc x hx]
    simp only [Int.toNat_natCast, if_true]
    rw [show ((enc x ++ (encs L ++ r)).drop (enc x).length) = encs L ++ r by simp, hi]
    simp
theorem tkls_cut : ∀ (L : List Int) (j : Nat), I64s L → j < (encs L).length → tkls L.length ((encs L).take j) = ([], 0, 13) := by
  intro L
  induction L with
  | nil => intro j _ hj; simp [encs] at hj
  | cons x L ih =>
    intro j h hj
    have hx := h x (by simp)
    have e : encs (x :: L) = enc x ++ encs L := by simp [encs]
    rw [e, List.length_cons]
    rw [e, List.length_append] at hj
    simp only [tkls]
    by_cases hc : j < (enc x).length
    · rw [List.take_append_of_le_length (by omega), tki_enc_cut x j hc]
      simp
    · rw [List.take_append, List.take_of_length_le (by omega : (enc x).length ≤ j), tki_enc x hx]
      simp only [Int.toNat_natCast, if_true]
      rw [show ((enc x ++ (encs L).take (j - (enc x).length)).drop (enc x).length) = (encs L).take (j - (enc x).length) by simp, ih (j - (enc x).length) (fun y hy => h y (by simp [hy])) (by omega)]
      simp
/-- A list that was read was written so. -/
theorem tkls_back : ∀ (n : Nat) (b : List Int), BY b → (tkls n b).2.2 = 0 → (tkls n b).1.length = n ∧ I64s (tkls n b).1 ∧ b.take (tkls n b).2.1.toNat = encs (tkls n b).1 ∧ (tkls n b).2.1 = ((encs (tkls n b).1).length : Int) := by
  intro n
  induction n with
  | zero => intro b _ _; simp [tkls, encs, I64s]
  | succ n ih =>
    intro b hb h
    simp only [tkls] at h ⊢
    by_cases h1 : (tki b).2.2 = 0
    · rw [if_pos h1] at h ⊢
      obtain ⟨a1, a2, a3, a4⟩ := tki_back b hb h1
      by_cases h2 : (tkls n (b.drop (tki b).2.1.toNat)).2.2 = 0
      · rw [if_pos h2]
        obtain ⟨b1, b2, b3, b4⟩ := ih _ (hb.drop _) h2
        have e : ∀ x L, encs (x :: L) = enc x ++ encs L := fun x L => by simp [encs]
        refine ⟨by simp [b1], fun y hy => ?_, ?_, ?_⟩
        · rcases List.mem_cons.1 hy with rfl | hy
          · exact a1
          · exact b2 y hy
        · simp only
          rw [e, ← b3, show ((tki b).2.1 + (tkls n (b.drop (tki b).2.1.toNat)).2.1).toNat = (tki b).2.1.toNat + (tkls n (b.drop (tki b).2.1.toNat)).2.1.toNat by omega, List.take_add, a2]
        · simp only
          rw [e, List.length_append]
          omega
      · rw [if_neg h2] at h
        exact absurd h h2
    · rw [if_neg h1] at h
      exact absurd h h1
theorem strOf_bytesOf (s : ByteArray) : strOfNums (bytesOf s) = s := by
  obtain ⟨⟨l⟩⟩ := s
  simp only [strOfNums, bytesOf]
  congr 1
  simp only [List.map_map]
  congr 1
  conv => rhs; rw [← List.map_id l]
  apply List.map_congr_left
  intro b _
  simp
theorem bytesOf_len (s : ByteArray) : (bytesOf s).length = s.size := by
  simp [bytesOf]
theorem bytesOf_BY (s : ByteArray) : BY (bytesOf s) := by
  intro x hx
  simp only [bytesOf, List.mem_map] at hx
  obtain ⟨b, _, rfl⟩ := hx
  have := b.toNat_lt
  omega
theorem enc_BY (n : Int) : BY (enc n) := enc_bytes n
theorem encs_BY (L : List Int) : BY (encs L) := by
  intro x hx
  simp only [encs, List.mem_flatMap] at hx
  obtain ⟨y, _, hx⟩ := hx
  exact enc_bytes y x hx
theorem BY.append {a b : List Int} (ha : BY a) (hb : BY b) : BY (a ++ b) := by
  intro x hx
  rcases List.mem_append.1 hx with h | h
  · exact ha x h
  · exact hb x h
theorem tkt_ok (s : ByteArray) (r : List Int) (hs : s.size ≤ 9223372036854775807) : tkt (enc s.size ++ bytesOf s ++ r) s.size = (s, ((enc s.size).length : Int) + s.size, 0) := by
  have h : tki (enc (s.size : Int) ++ (bytesOf s ++ r)) = _ := tki_enc _ ⟨by omega, by omega⟩ _
  have hc := cnt_of (most := (s.size : Int)) h (by omega) (by omega)
  have hl := bytesOf_len s
  unfold tkt
  rw [List.append_assoc, hc]
  simp only [if_true]
  rw [if_neg (by simp; omega)]
  simp only [Int.toNat_natCast]
  rw [show ((enc (s.size : Int) ++ (bytesOf s ++ r)).drop (enc (s.size : Int)).length) = bytesOf s ++ r by simp, List.take_append_of_le_length (by omega), List.take_of_length_le (by omega), strOf_bytesOf]
theorem tkt_cut (s : ByteArray) (j : Nat) (hs : s.size ≤ 9223372036854775807) (hj : j < (enc s.size ++ bytesOf s).length) : tkt ((enc s.size ++ bytesOf s).take j) s.size = ((⟨#[]⟩ : ByteArray), 0, 13) := by
  rw [List.length_append, bytesOf_len] at hj
  unfold tkt
  by_cases hc : j < (enc (s.size : Int)).length
  · rw [List.take_append_of_le_length (by omega), cnt_cut (tki_enc_cut _ j hc)]
    simp
  · have e : (enc (s.size : Int) ++ bytesOf s).take j = enc (s.size : Int) ++ (bytesOf s).take (j - (enc (s.size : Int)).length) := by
      rw [List.take_append, List.take_of_length_le (by omega : (enc (s.size : Int)).length ≤ j)]
    have h : tki (enc (s.size : Int) ++ (bytesOf s).take (j - (enc (s.size : Int)).length)) = _ := tki_enc _ ⟨by omega, by omega⟩ _
    rw [e, cnt_of (most := (s.size : Int)) h (by omega) (by omega)]
    simp only [if_true]
    rw [if_pos]
    rw [List.length_append, List.length_take, bytesOf_len]
    omega
theorem tkl_ok (L r : List Int) (h : I64s L) (hl : L.length ≤ 9223372036854775807) : tkl (enc L.length ++ encs L ++ r) L.length = (L, ((enc L.length).length : Int) + (encs L).length, 0) := by
  have h1 : tki (enc (L.length : Int) ++ (encs L ++ r)) = _ := tki_enc _ ⟨by omega, by omega⟩ _
  have hc := cnt_of (most := (L.length : Int)) h1 (by omega) (by omega)
  unfold tkl
  rw [List.append_assoc, hc]
  simp only [if_true, Int.toNat_natCast]
  rw [show ((enc (L.length : Int) ++ (encs L ++ r)).drop (enc (L.length : Int)).length) = encs L ++ r by simp, tkls_ok r L h]
  simp [fin]
theorem tkl_cut (L : List Int) (j : Nat) (h : I64s L) (hl : L.length ≤ 9223372036854775807) (hj : j < (enc L.length ++ encs L).length) : tkl ((enc L.length ++ encs L).take j) L.length = ([], 0, 13) := by
  rw [List.length_append] at hj
  unfold tkl
  by_cases hc : j < (enc (L.length : Int)).length
  · rw [List.take_append_of_le_length (by omega), cnt_cut (tki_enc_cut _ j hc)]
    simp
  · have e : (enc (L.length : Int) ++ encs L).take j = enc (L.length : Int) ++ (encs L).take (j - (enc (L.length : Int)).length) := by
      rw [List.take_append, List.take_of_length_le (by omega : (enc (L.length : Int)).length ≤ j)]
    have h1 : tki (enc (L.length : Int) ++ (encs L).take (j - (enc (L.length : Int)).length)) = _ := tki_enc _ ⟨by omega, by omega⟩ _
    rw [e, cnt_of (most := (L.length : Int)) h1 (by omega) (by omega)]
    simp only [if_true, Int.toNat_natCast]
    rw [show ((enc (L.length : Int) ++ (encs L).take (j - (enc (L.length : Int)).length)).drop (enc (L.length : Int)).length) = (encs L).take (j - (enc (L.length : Int)).length) by simp, tkls_cut L _ h (by omega)]
    simp [fin]
theorem bys {l : List Int} {M : Nat} (h : l.length ≤ M ∧ ∀ y ∈ l, (Lit.int .u8 y).wf = true) : BY l := fun x hx => wfu8 (h.2 x hx)
theorem i64s {l : List Int} {M : Nat} (h : l.length ≤ M ∧ ∀ y ∈ l, (Lit.int .i64 y).wf = true) : I64s l := fun x hx => wf64 (h.2 x hx)
end Go.Proofs.Ytmmnhokejadgaaa.WImpl
