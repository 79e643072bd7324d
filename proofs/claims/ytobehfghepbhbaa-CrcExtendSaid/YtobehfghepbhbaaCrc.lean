/- The checksum over natural numbers: linear, and one-to-one in each byte. -/
import Derived.Test.YtobehfghepbhbaaXWInvWordsMore
import Derived.Laws.BitsAllLaws
namespace Go.Proofs.Ytobehfghepbhbaa.Crc
open Go.RowKit Go.Proofs.YtobehfghepbhbaaW.PrintWords

/-- One bit's step. -/
def st (r : Nat) : Nat := if r % 2 = 1 then (r / 2) ^^^ 2197175160 else r / 2
def stn : Nat → Nat → Nat
  | 0, r => r
  | n + 1, r => stn n (st r)
/-- One byte's step. -/
def bt (r : Nat) (c : Int) : Nat := stn 8 (r ^^^ c.toNat)
def run : Nat → List Int → Nat
  | r, [] => r
  | r, c :: l => run (bt r c) l
def ntq (q r : Nat) : Nat := q ^^^ r
def nt (r : Nat) : Nat := ntq 4294967295 r
/-- Extend. -/
def ext (s : Nat) (l : List Int) : Nat := nt (run (nt s) l)
theorem xor_lt {a b : Nat} (ha : a < 4294967296) (hb : b < 4294967296) : a ^^^ b < 4294967296 := Nat.xor_lt_two_pow (n := 32) ha hb
theorem st_lt {r : Nat} (h : r < 4294967296) : st r < 4294967296 := by
  unfold st
  split
  · exact xor_lt (by omega) (by omega)
  · omega
theorem stn_lt : ∀ (n : Nat) {r : Nat}, r < 4294967296 → stn n r < 4294967296 := by
  intro n
  induction n with
  | zero => intro r h; exact h
  | succ n ih => intro r h; exact ih (st_lt h)
theorem bt_lt {r : Nat} {c : Int} (h : r < 4294967296) (h1 : c ≤ 255) : bt r c < 4294967296 := stn_lt 8 (xor_lt h (by omega))
theorem nt_lt {r : Nat} (h : r < 4294967296) : nt r < 4294967296 := by
  unfold nt ntq
  exact xor_lt (by omega) h
theorem xor_back (q r : Nat) : q ^^^ (q ^^^ r) = r := by rw [← Nat.xor_assoc, Nat.xor_self, Nat.zero_xor]
theorem ntq_eq (q r : Nat) : ntq q r = q ^^^ r := rfl
theorem nt_eq (r : Nat) : nt r = 4294967295 ^^^ r := ntq_eq 4294967295 r
theorem ntq_ntq (q r : Nat) : ntq q (ntq q r) = r := xor_back q r
theorem nt_nt (r : Nat) : nt (nt r) = r := ntq_ntq 4294967295 r
theorem run_lt : ∀ (l : List Int) {r : Nat}, r < 4294967296 → (∀ x ∈ l, 0 ≤ x ∧ x ≤ 255) → run r l < 4294967296 := by
  intro l
  induction l with
  | nil => intro r h _; exact h
  | cons c l ih => intro r h hb; exact ih (bt_lt h (hb c (by simp)).2) (fun x hx => hb x (by simp [hx]))
theorem ext_lt {s : Nat} {l : List Int} (h : s < 4294967296) (hb : ∀ x ∈ l, 0 ≤ x ∧ x ≤ 255) : ext s l < 4294967296 := nt_lt (run_lt l (nt_lt h) hb)
theorem run_append : ∀ (l m : List Int) (r : Nat), run r (l ++ m) = run (run r l) m := by
  intro l
  induction l with
  | nil => intro m r; rfl
  | cons c l ih => intro m r; exact ih m (bt r c)
theorem ext_append (s : Nat) (l m : List Int) : ext (ext s l) m = ext s (l ++ m) := by
  unfold ext
  rw [nt_nt, run_append]
theorem ext_nil (s : Nat) : ext s [] = s := nt_nt s
/-! ### linear -/
theorem xor_mod2 (a b : Nat) : (a ^^^ b) % 2 = (a + b) % 2 := by
  have h := Nat.testBit_xor a b 0
  rw [Nat.testBit_zero, Nat.testBit_zero, Nat.testBit_zero] at h
  have h0 : ∀ x : Nat, x % 2 = 0 ∨ x % 2 = 1 := fun x => by omega
  rcases h0 a with ha | ha <;> rcases h0 b with hb | hb <;> rcases h0 (a ^^^ b) with hc | hc <;> rw [ha, hb, hc] at h <;> first | omega | (exfalso; revert h; decide)
theorem xor_zero' {a b : Nat} (h : a ^^^ b = 0) : a = b := by
  have h1 := congrArg (fun x => a ^^^ x) h
  simp only [← Nat.xor_assoc, Nat.xor_self, Nat.zero_xor, Nat.xor_zero] at h1
  exact h1.symm
theorem st_xor (a b : Nat) : st (a ^^^ b) = st a ^^^ st b := by
  unfold st
  have h1 : (a ^^^ b) % 2 = (a + b) % 2 := xor_mod2 a b
  have h2 : (a ^^^ b) / 2 = a / 2 ^^^ b / 2 := Nat.xor_div_two
  rw [h1, h2]
  by_cases ha : a % 2 = 1
  · by_cases hb : b % 2 = 1
    · rw [if_neg (by omega), if_pos ha, if_pos hb]
      rw [show ∀ x y p : Nat, x ^^^ p ^^^ (y ^^^ p) = x ^^^ y from fun x y p => by rw [Nat.xor_assoc, Nat.xor_comm y p, ← Nat.xor_assoc p p, Nat.xor_self, Nat.zero_xor]]
    · rw [if_pos (by omega), if_pos ha, if_neg hb, Nat.xor_assoc, Nat.xor_assoc, Nat.xor_comm (b / 2)]
  · by_cases hb : b % 2 = 1
    · rw [if_pos (by omega), if_neg ha, if_pos hb, Nat.xor_assoc]
    · rw [if_neg (by omega), if_neg ha, if_neg hb]
theorem stn_xor : ∀ (n a b : Nat), stn n (a ^^^ b) = stn n a ^^^ stn n b := by
  intro n
  induction n with
  | zero => intro a b; rfl
  | succ n ih => intro a b; rw [stn, st_xor, ih]; rfl
theorem st_zero {x : Nat} (h : x < 4294967296) (e : st x = 0) : x = 0 := by
  unfold st at e
  split at e
  · have := xor_zero' e
    omega
  · omega
theorem st_inj {a b : Nat} (ha : a < 4294967296) (hb : b < 4294967296) (h : st a = st b) : a = b := by
  have h1 : st (a ^^^ b) = 0 := by rw [st_xor, h, Nat.xor_self]
  exact xor_zero' (st_zero (xor_lt ha hb) h1)
theorem stn_inj : ∀ (n : Nat) {a b : Nat}, a < 4294967296 → b < 4294967296 → stn n a = stn n b → a = b := by
  intro n
  induction n with
  | zero => intro a b _ _ h; exact h
  | succ n ih => intro a b ha hb h; exact st_inj ha hb (ih (st_lt ha) (st_lt hb) h)
theorem xor_left {a b c : Nat} (h : a ^^^ b = a ^^^ c) : b = c := by
  have := congrArg (fun x => a ^^^ x) h
  simpa only [← Nat.xor_assoc, Nat.xor_self, Nat.zero_xor] using this
theorem bt_inj {a b : Nat} {c : Int} (ha : a < 4294967296) (hb : b < 4294967296) (h1 : c ≤ 255) (h : bt a c = bt b c) : a = b := by
  have := stn_inj 8 (xor_lt ha (by omega)) (xor_lt hb (by omega)) h
  rw [Nat.xor_comm a, Nat.xor_comm b] at this
  exact xor_left this
theorem run_inj : ∀ (l : List Int) {a b : Nat}, a < 4294967296 → b < 4294967296 → (∀ x ∈ l, 0 ≤ x ∧ x ≤ 255) → run a l = run b l → a = b := by
  intro l
  induction l with
  | nil => intro a b _ _ _ h; exact h
  | cons c l ih => intro a b ha hb hl h; exact bt_inj ha hb (hl c (by simp)).2 (ih (bt_lt ha (hl c (by simp)).2) (bt_lt hb (hl c (by simp)).2) (fun x hx => hl x (by simp [hx])) h)
/-- A byte that is changed changes the checksum. -/
theorem ext_change {s : Nat} {p q : List Int} {c d : Int} (hs : s < 4294967296) (hp : ∀ x ∈ p, 0 ≤ x ∧ x ≤ 255) (hq : ∀ x ∈ q, 0 ≤ x ∧ x ≤ 255) (hc : 0 ≤ c ∧ c ≤ 255) (hd : 0 ≤ d ∧ d ≤ 255) (hne : c ≠ d) : ext s (p ++ c :: q) ≠ ext s (p ++ d :: q) := by
  intro h
  have h1 : run (nt s) (p ++ c :: q) = run (nt s) (p ++ d :: q) := by
    have := congrArg nt h
    unfold ext at this
    rwa [nt_nt, nt_nt] at this
  rw [run_append, run_append] at h1
  have hr := run_lt p (nt_lt hs) hp
  have h2 := run_inj q (bt_lt hr hc.2) (bt_lt hr hd.2) hq h1
  have h3 := xor_left (stn_inj 8 (xor_lt hr (by omega)) (xor_lt hr (by omega)) h2)
  omega
/-- Three lists of one length, combined. -/
def x3 : List Int → List Int → List Int → List Int
  | a :: l, b :: m, c :: n => ((((a.toNat ^^^ b.toNat) ^^^ c.toNat : Nat) : Int)) :: x3 l m n
  | _, _, _ => []
theorem mix (a b c x y z : Nat) : (a ^^^ b ^^^ c) ^^^ (x ^^^ y ^^^ z) = (a ^^^ x) ^^^ (b ^^^ y) ^^^ (c ^^^ z) := by
  have lc : ∀ p q r : Nat, p ^^^ (q ^^^ r) = q ^^^ (p ^^^ r) := fun p q r => by rw [← Nat.xor_assoc, Nat.xor_comm p q, Nat.xor_assoc]
  simp only [Nat.xor_assoc]
  rw [lc c x, lc b x, lc c y]
theorem bt3 (a b c : Nat) (u v w : Int) : bt (a ^^^ b ^^^ c) (((u.toNat ^^^ v.toNat) ^^^ w.toNat : Nat) : Int) = bt a u ^^^ bt b v ^^^ bt c w := by
  unfold bt
  generalize 8 = e
  rw [Int.toNat_natCast, mix, stn_xor, stn_xor]
theorem run_x3 : ∀ (l m n : List Int) (a b c : Nat), l.length = m.length → m.length = n.length → run (a ^^^ b ^^^ c) (x3 l m n) = run a l ^^^ run b m ^^^ run c n := by
  intro l
  induction l with
  | nil =>
    intro m n a b c h1 h2
    cases m with
    | nil => cases n with
      | nil => rfl
      | cons _ _ => simp at h2
    | cons _ _ => simp at h1
  | cons u l ih =>
    intro m n a b c h1 h2
    cases m with
    | nil => simp at h1
    | cons v m => cases n with
      | nil => simp at h2
      | cons w n =>
        show run (bt (a ^^^ b ^^^ c) (((u.toNat ^^^ v.toNat) ^^^ w.toNat : Nat) : Int)) (x3 l m n) = run (bt a u) l ^^^ run (bt b v) m ^^^ run (bt c w) n
        rw [bt3]
        exact ih m n _ _ _ (Nat.succ.inj h1) (Nat.succ.inj h2)
theorem ntq3 (q x y z : Nat) : ntq q (x ^^^ y ^^^ z) = ntq q x ^^^ ntq q y ^^^ ntq q z := by
  unfold ntq
  rw [← mix, Nat.xor_self, Nat.zero_xor]
theorem nt3 (x y z : Nat) : nt (x ^^^ y ^^^ z) = nt x ^^^ nt y ^^^ nt z := ntq3 4294967295 x y z
theorem ext_x3 (l m n : List Int) (h1 : l.length = m.length) (h2 : m.length = n.length) : ext 0 (x3 l m n) = ext 0 l ^^^ ext 0 m ^^^ ext 0 n := by
  unfold ext
  generalize nt 0 = z
  rw [← nt3, ← run_x3 l m n _ _ _ h1 h2, Nat.xor_self, Nat.zero_xor]
end Go.Proofs.Ytobehfghepbhbaa.Crc
