/- Texts and lists of the wire package and its reference, as printed. -/
import Derived.Test.YtmmnhokejadgaaaX9
import Derived.Test.YtmmnhokejadgaaaX8
import Derived.Test.YtmmnhokejadgaaaX5
import Derived.Test.YtmmnhokejadgaaaX13
import Derived.Test.YtmmnhokejadgaaaX12
import Derived.Test.YtmmnhokejadgaaaX11
import Derived.Test.YtmmnhokejadgaaaX10
import Derived.Test.YtmmnhokejadgaaaImpl
namespace Go.Proofs.Ytmmnhokejadgaaa.WImpl
open Go.RowKit Go.Proofs.YtmmnhokejadgaaaW.PrintWords Go.Proofs.Ytmmnhokejadgaaa.X Go.Proofs.Ytmmnhokejadgaaa.WPlain
set_option linter.unusedVariables false

theorem own_f (l : List Int) (hl : l.length < 140737488355328) : dancestudiolaw07_own.f l = some l := by
  unfold dancestudiolaw07_own.f
  simp only [Option.bind_some, List.length_nil, Nat.zero_add]
  rw [if_pos hl]
  rfl
/-- What count returns. -/
def cnt (l : List Int) (most : Int) : Int × Int × Int :=
  if (tki l).2.2 = 0 then (if (tki l).1 < 0 then (0, 0, 2) else if (tki l).1 > most then (0, 0, 3) else ((tki l).1, (tki l).2.1, 0)) else (0, 0, (tki l).2.2)
theorem count_f (k : Nat) (l : List Int) (most : Int) (hb : BY l) (hl : l.length ≤ 140737488355328) (hk : l.length + 20 ≤ k) : wire_count.f k l most = some (cnt l most) := by
  unfold wire_count.f cnt
  rw [takeInt_f k l hb hl hk]
  simp only [Option.bind_some]
  split
  · split
    · rfl
    · split <;> rfl
  · rfl
theorem cnt_ok {l : List Int} {most : Int} (h : (cnt l most).2.2 = 0) : (tki l).2.2 = 0 ∧ 0 ≤ (tki l).1 ∧ (tki l).1 ≤ most ∧ cnt l most = tki l := by
  unfold cnt at h ⊢
  split at h
  · rename_i h1
    split at h
    · simp at h
    · split at h
      · simp at h
      · rename_i h2 h3
        refine ⟨h1, by omega, by omega, ?_⟩
        rw [if_pos h1, if_neg h2, if_neg h3]
        rw [← h1]
  · rename_i h1
    simp at h
    exact absurd h h1
theorem cnt_of {l : List Int} {most n k : Int} (h : tki l = (n, k, 0)) (h0 : 0 ≤ n) (h1 : n ≤ most) : cnt l most = (n, k, 0) := by
  unfold cnt
  rw [h]
  simp only [if_true]
  rw [if_neg (by omega), if_neg (by omega)]
theorem cnt_cut {l : List Int} {most : Int} (h : tki l = (0, 0, 13)) : cnt l most = (0, 0, 13) := by
  unfold cnt
  rw [h]
  simp
theorem tki_range (l : List Int) (hb : BY l) : I64 (tki l).1 := by
  by_cases h : (tki l).2.2 = 0
  · obtain ⟨u, r, hu, _, h2⟩ := tki_once l hb h
    rw [h2]
    exact unzz_range u hu
  · rw [(tki_bad l h).1]
    exact ⟨by omega, by omega⟩
theorem tki_taken (l : List Int) (h : (tki l).2.2 = 0) : 1 ≤ (tki l).2.1 := by
  unfold tki at h ⊢
  split at h
  · simp at h
  · split at h
    · simp at h
    · split at h
      · simp at h
      · rename_i h1 h2
        rw [if_neg h1, if_neg h2]
        simp
        omega
theorem cnt_len (l : List Int) (most : Int) : 0 ≤ (cnt l most).2.1 ∧ (cnt l most).2.1 ≤ l.length ∧ (cnt l most).2.1 ≤ 10 := by
  have := tki_len l
  unfold cnt
  split
  · split
    · simp
    · split
      · simp
      · exact this
  · simp
theorem cnt_range (l : List Int) (most : Int) (hb : BY l) : 0 ≤ (cnt l most).1 ∧ (cnt l most).1 ≤ 9223372036854775807 := by
  have := tki_range l hb
  unfold cnt
  split
  · split
    · simp
    · split
      · simp
      · exact ⟨by omega, this.2⟩
  · simp

/-! ### texts -/
/-- What TakeText returns. -/
def tkt (l : List Int) (most : Int) : ByteArray × Int × Int :=
  if (cnt l most).2.2 = 0 then (if (cnt l most).1 > (l.length : Int) - (cnt l most).2.1 then ((⟨#[]⟩ : ByteArray), 0, 13) else (strOfNums ((l.drop (cnt l most).2.1.toNat).take (cnt l most).1.toNat), (cnt l most).2.1 + (cnt l most).1, 0)) else ((⟨#[]⟩ : ByteArray), 0, (cnt l most).2.2)
theorem cut_mid (l : List Int) (a b : Int) (ha : 0 ≤ a) (hb : 0 ≤ b) : (l.take (a + b).toNat).drop a.toNat = (l.drop a.toNat).take b.toNat := by
  rw [List.drop_take, show (a + b).toNat - a.toNat = b.toNat by omega]
theorem takeText_f (k : Nat) (l : List Int) (most : Int) (hb : BY l) (hl : l.length ≤ 140737488355328) (hk : l.length + 20 ≤ k) : wire_TakeText.f k l most = some (tkt l most) := by
  have h1 := cnt_len l most
  have h2 := cnt_range l most hb
  unfold wire_TakeText.f tkt
  rw [count_f k l most hb hl hk]
  simp only [Option.bind_some]
  by_cases h : (cnt l most).2.2 = 0
  · rw [if_pos h, if_pos h, w64 (x := (l.length : Int) - (cnt l most).2.1) (by omega) (by omega)]
    by_cases hc : (cnt l most).1 > (l.length : Int) - (cnt l most).2.1
    · rw [if_pos hc, if_pos hc]
    · rw [if_neg hc, if_neg hc, if_pos (by omega), w64 (by omega) (by omega), if_pos (by omega), if_pos (by omega), cut_mid _ _ _ (by omega) (by omega)]
  · rw [if_neg h, if_neg h]
theorem putText_f (k : Nat) (l : List Int) (s : ByteArray) (hl : l.length + s.size + 20 ≤ 140737488355328) (hk : 12 ≤ k) : wire_PutText.f k l s = some (l ++ enc s.size ++ bytesOf s) := by
  have hs : I64 (s.size : Int) := ⟨by omega, by omega⟩
  have he := enc_len _ hs
  unfold wire_PutText.f
  rw [w64 (by omega) (by omega), copied_f l _ (by omega) (by omega) (by omega)]
  simp only [Option.bind_some]
  rw [put_f k l _ hs (by omega) hk]
  simp only [Option.bind_some]
  rw [if_pos (by simp; omega)]
/-! ### lists -/
/-- What TakeList returns for n elements: the elements, the bytes, the error. -/
def tkls : Nat → List Int → List Int × Int × Int
  | 0, _ => ([], 0, 0)
  | n + 1, b => if (tki b).2.2 = 0 then (if (tkls n (b.drop (tki b).2.1.toNat)).2.2 = 0 then ((tki b).1 :: (tkls n (b.drop (tki b).2.1.toNat)).1, (tki b).2.1 + (tkls n (b.drop (tki b).2.1.toNat)).2.1, 0) else ([], 0, (tkls n (b.drop (tki b).2.1.toNat)).2.2)) else ([], 0, (tki b).2.2)
def fin (out : List Int) (at_ : Int) (r : List Int × Int × Int) : List Int × Int × Int := if r.2.2 = 0 then (out ++ r.1, at_ + r.2.1, 0) else ([], 0, r.2.2)
def tkl (l : List Int) (most : Int) : List Int × Int × Int :=
  if (cnt l most).2.2 = 0 then fin [] (cnt l most).2.1 (tkls (cnt l most).1.toNat (l.drop (cnt l most).2.1.toNat)) else ([], 0, (cnt l most).2.2)
theorem BY.drop {l : List Int} (h : BY l) (n : Nat) : BY (l.drop n) := fun x hx => h x (List.mem_of_mem_drop hx)
theorem BY.take {l : List Int} (h : BY l) (n : Nat) : BY (l.take n) := fun x hx => h x (List.mem_of_mem_take hx)
theorem fin_step (out : List Int) (at_ : Int) (n : Nat) (b : List Int) : fin out at_ (tkls (n + 1) b) = if (tki b).2.2 = 0 then fin (out ++ [(tki b).1]) (at_ + (tki b).2.1) (tkls n (b.drop (tki b).2.1.toNat)) else ([], 0, (tki b).2.2) := by
  unfold fin
  simp only [tkls]
  by_cases h : (tki b).2.2 = 0
  · simp only [if_pos h]
    by_cases h2 : (tkls n (b.drop (tki b).2.1.toNat)).2.2 = 0
    · simp only [if_pos h2, if_true]
      congr 1
      · simp
      · congr 1; omega
    · simp only [if_neg h2]
  · simp only [if_neg h]
theorem takeList_l0 (l : List Int) (hb : BY l) (hl : l.length ≤ 100000000) (n : Nat) (hn : (n : Int) ≤ 9223372036854775807) : ∀ (d at_ i k : Nat) (out : List Int), l.length - at_ = d → at_ ≤ l.length → out.length ≤ at_ → i ≤ n → l.length + 30 + d < k →
    wire_TakeList.l0 k l (at_ : Int) out (n : Int) (i : Int) = some (fin out at_ (tkls (n - i) (l.drop at_))) := by
  intro d
  induction d using Nat.strongRecOn with
  | _ d ih =>
    intro at_ i k out hd ha ho hi hk
    obtain ⟨k, rfl⟩ : ∃ m, k = m + 1 := ⟨k - 1, by omega⟩
    simp only [wire_TakeList.l0]
    by_cases hin : i < n
    · rw [if_pos (by omega), if_pos (by omega), if_pos (by omega)]
      simp only [Int.toNat_natCast]
      rw [takeInt_f k _ (hb.drop _) (by simp; omega) (by simp; omega)]
      simp only [Option.bind_some]
      obtain ⟨m, hm⟩ : ∃ m, n - i = m + 1 := ⟨n - i - 1, by omega⟩
      rw [hm, fin_step]
      have hlen := tki_len (l.drop at_)
      simp only [List.length_drop] at hlen
      by_cases h0 : (tki (l.drop at_)).2.2 = 0
      · have htk := tki_taken _ h0
        rw [if_pos h0, if_pos h0, if_pos (by omega)]
        rw [w64 (by omega) (by omega), w64 (by omega) (by omega)]
        rw [show (at_ : Int) + (tki (l.drop at_)).2.1 = ((at_ + (tki (l.drop at_)).2.1.toNat : Nat) : Int) by omega, show (i : Int) + 1 = ((i + 1 : Nat) : Int) by omega]
        rw [ih (l.length - (at_ + (tki (l.drop at_)).2.1.toNat)) (by omega) _ (i + 1) k _ rfl (by omega) (by simp; omega) (by omega) (by omega)]
        rw [show n - (i + 1) = m by omega, List.drop_drop]
      · rw [if_neg h0, if_neg h0]
    · rw [if_neg (by omega), show n - i = 0 by omega]
      simp [tkls, fin]
theorem takeList_f (k : Nat) (l : List Int) (most : Int) (hb : BY l) (hl : l.length ≤ 100000000) (hk : 2 * l.length + 40 ≤ k) : wire_TakeList.f k l most = some (tkl l most) := by
  have h1 := cnt_len l most
  have h2 := cnt_range l most hb
  unfold wire_TakeList.f tkl
  rw [count_f k l most hb (by omega) (by omega)]
  simp only [Option.bind_some]
  by_cases h : (cnt l most).2.2 = 0
  · rw [if_pos h, if_pos h]
    have := takeList_l0 l hb hl (cnt l most).1.toNat (by omega) _ (cnt l most).2.1.toNat 0 k [] rfl (by omega) (by simp) (by omega) (by omega)
    rw [show (((cnt l most).1.toNat : Nat) : Int) = (cnt l most).1 by omega, show (((cnt l most).2.1.toNat : Nat) : Int) = (cnt l most).2.1 by omega] at this
    simpa using this
  · rw [if_neg h, if_neg h]
/-- The encodings of integers. -/
def encs (l : List Int) : List Int := l.flatMap enc
def I64s (l : List Int) : Prop := ∀ x ∈ l, I64 x
theorem encs_len (l : List Int) (h : I64s l) : (encs l).length ≤ 10 * l.length := by
  induction l with
  | nil => simp [encs]
  | cons x r ih =>
    have h1 := enc_len x (h x (by simp))
    have h2 := ih (fun y hy => h y (by simp [hy]))
    unfold encs at h2 ⊢
    simp only [List.flatMap_cons, List.length_append, List.length_cons]
    omega
theorem putList_l0 (l : List Int) (h64 : I64s l) (hl : l.length ≤ 1048576) : ∀ (r : List Int) (i k : Nat) (x : List Int), l.drop i = r → i ≤ l.length → x.length + 10 * r.length + 20 ≤ 140737488355328 → r.length + 20 < k →
    wire_PutList.l0 k x l (l.length : Int) (i : Int) = some (x ++ encs r) := by
  intro r
  induction r with
  | nil =>
    intro i k x hr hi hx hk
    obtain ⟨k, rfl⟩ : ∃ m, k = m + 1 := ⟨k - 1, by omega⟩
    have : l.length ≤ i := by simpa using hr
    simp only [wire_PutList.l0]
    rw [if_neg (by omega)]
    simp [encs]
  | cons y r ih =>
    intro i k x hr hi hx hk
    obtain ⟨k, rfl⟩ : ∃ m, k = m + 1 := ⟨k - 1, by omega⟩
    obtain ⟨h1, h2, h3⟩ := rd_of_drop hr
    have hy : I64 y := h64 y (List.mem_of_mem_drop (hr ▸ (List.mem_cons_self : y ∈ y :: r)))
    have he := enc_len y hy
    simp only [List.length_cons] at hx hk
    simp only [wire_PutList.l0]
    rw [if_pos (by omega), if_pos (by omega), if_pos (by omega), h1, put_f k x y hy (by omega) (by omega)]
    simp only [Option.bind_some]
    rw [w64 (by omega) (by omega), show (i : Int) + 1 = ((i + 1 : Nat) : Int) by omega, ih (i + 1) k _ h3 (by omega) (by simp; omega) (by omega)]
    simp [encs]
theorem putList_f (k : Nat) (b l : List Int) (h64 : I64s l) (hl : l.length ≤ 1048576) (hb : b.length ≤ 100000000) (hk : l.length + 30 ≤ k) : wire_PutList.f k b l = some (b ++ enc l.length ++ encs l) := by
  have hs : I64 (l.length : Int) := ⟨by omega, by omega⟩
  have he := enc_len _ hs
  unfold wire_PutList.f
  rw [w64 (by omega) (by omega), copied_f b _ (by omega) (by omega) (by omega)]
  simp only [Option.bind_some]
  rw [put_f k b _ hs (by omega) (by omega)]
  simp only [Option.bind_some]
  exact putList_l0 l h64 hl l 0 k _ (by simp) (by omega) (by simp; omega) (by omega)
theorem ints_l0 (a b : List Int) (hl : a.length = b.length) (hs : a.length ≤ 140737488355328) : ∀ (r : List Int) (i k : Nat), a.drop i = r → i ≤ a.length → r.length < k →
    dancestudioref07_Ints.l0 k a b (i : Int) = some (decide (a.drop i = b.drop i)) := by
  intro r
  induction r with
  | nil =>
    intro i k hr hi hk
    obtain ⟨k, rfl⟩ : ∃ m, k = m + 1 := ⟨k - 1, by omega⟩
    have : a.length ≤ i := by simpa using hr
    simp only [dancestudioref07_Ints.l0]
    rw [if_neg (by omega), List.drop_of_length_le this, List.drop_of_length_le (by omega)]
    simp
  | cons y r ih =>
    intro i k hr hi hk
    obtain ⟨k, rfl⟩ : ∃ m, k = m + 1 := ⟨k - 1, by omega⟩
    obtain ⟨h1, h2, h3⟩ := rd_of_drop hr
    have hb : b.drop i = b[i] :: b.drop (i + 1) := List.drop_eq_getElem_cons (by omega)
    obtain ⟨g1, g2, g3⟩ := rd_of_drop hb
    simp only [List.length_cons] at hk
    simp only [dancestudioref07_Ints.l0]
    have e : (a.drop i = b.drop i) ↔ (y = b[i] ∧ a.drop (i + 1) = b.drop (i + 1)) := by
      rw [hr, hb, h3]
      exact List.cons_eq_cons
    rw [if_pos (by omega), if_pos (by omega), if_pos (by omega), h1, g1]
    by_cases he : y = b[i]
    · rw [if_pos he, w64 (by omega) (by omega), show (i : Int) + 1 = ((i + 1 : Nat) : Int) by omega, ih (i + 1) k h3 (by omega) (by omega)]
      congr 1
      exact decide_eq_decide.2 (by rw [e]; exact ⟨fun h => ⟨he, h⟩, fun h => h.2⟩)
    · rw [if_neg he]
      congr 1
      symm
      exact decide_eq_false (fun h => he (e.1 h).1)
theorem ints_f (k : Nat) (a b : List Int) (hs : a.length ≤ 140737488355328) (hk : a.length < k) : dancestudioref07_Ints.f k a b = some (decide (a = b)) := by
  unfold dancestudioref07_Ints.f
  by_cases h : a.length = b.length
  · rw [if_pos (by omega)]
    have := ints_l0 a b h hs a 0 k (by simp) (by omega) hk
    simpa using this
  · rw [if_neg (by omega)]
    congr 1
    symm
    exact decide_eq_false (fun e => h (by rw [e]))
end Go.Proofs.Ytmmnhokejadgaaa.WImpl
