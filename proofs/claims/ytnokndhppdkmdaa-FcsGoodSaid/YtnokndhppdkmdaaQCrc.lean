/- Registers of check sequences, over naturals: linear over bits. -/
import Derived.Test.YtnokndhppdkmdaaQBase
namespace Go.Proofs.Ytnokndhppdkmdaa.Q
open Go.RowKit Go.Proofs.YtnokndhppdkmdaaW.PrintWords Go.Proofs.YtnokndhppdkmdaaW.PrintLast Go.Proofs.YtnokndhppdkmdaaW.PrintMore
set_option linter.unusedVariables false
set_option linter.unusedSimpArgs false

/-- One bit goes out of the register. -/
def S (p n : Nat) : Nat := if n % 2 = 1 then (n / 2) ^^^ p else n / 2
def Sn (p : Nat) : Nat → Nat → Nat
  | 0, n => n
  | k + 1, n => S p (Sn p k n)
theorem xor_half (a b : Nat) : (a ^^^ b) / 2 = (a / 2) ^^^ (b / 2) := by
  apply Nat.eq_of_testBit_eq
  intro i
  simp [Nat.testBit_xor, ← Nat.testBit_succ]
theorem xor_odd (a b : Nat) : ((a ^^^ b) % 2 = 1) ↔ ¬ ((a % 2 = 1) ↔ (b % 2 = 1)) := by
  have h : ∀ n : Nat, (n % 2 = 1) ↔ n.testBit 0 = true := fun n => by simp [Nat.testBit_zero]
  rw [h, h, h, Nat.testBit_xor]
  cases a.testBit 0 <;> cases b.testBit 0 <;> simp
theorem S_xor (p a b : Nat) : S p (a ^^^ b) = S p a ^^^ S p b := by
  unfold S
  have h := xor_odd a b
  rw [xor_half]
  by_cases ha : a % 2 = 1 <;> by_cases hb : b % 2 = 1
  · rw [if_neg (by rw [h]; simp [ha, hb]), if_pos ha, if_pos hb]
    rw [Nat.xor_assoc, ← Nat.xor_assoc p, Nat.xor_comm p, Nat.xor_assoc (b / 2), Nat.xor_self, Nat.xor_zero]
  · rw [if_pos (by rw [h]; simp [ha, hb]), if_pos ha, if_neg hb, Nat.xor_assoc, Nat.xor_assoc, Nat.xor_comm p]
  · rw [if_pos (by rw [h]; simp [ha, hb]), if_neg ha, if_pos hb, Nat.xor_assoc]
  · rw [if_neg (by rw [h]; simp [ha, hb]), if_neg ha, if_neg hb]
theorem Sn_xor (p k a b : Nat) : Sn p k (a ^^^ b) = Sn p k a ^^^ Sn p k b := by
  induction k with
  | zero => rfl
  | succ k ih => rw [Sn, ih, S_xor]; rfl
theorem Sn_add (p a b n : Nat) : Sn p (a + b) n = Sn p b (Sn p a n) := by
  induction b with
  | zero => rfl
  | succ b ih => rw [← Nat.add_assoc, Sn, ih]; rfl
theorem Sn_succ (p k n : Nat) : Sn p (k + 1) n = Sn p k (S p n) := by
  rw [Nat.add_comm, Sn_add]
  rfl
theorem S_two (p n : Nat) : S p (n * 2) = n := by
  unfold S
  rw [if_neg (by omega)]
  omega
theorem Sn_shift (p k n : Nat) : Sn p k (n * 2 ^ k) = n := by
  induction k generalizing n with
  | zero => simp [Sn]
  | succ k ih => rw [Sn, Nat.pow_succ, show n * (2 ^ k * 2) = n * 2 * 2 ^ k by rw [Nat.mul_comm (2 ^ k), Nat.mul_assoc], ih, S_two]
theorem Sn_zero (p k : Nat) : Sn p k 0 = 0 := by
  have := Sn_shift p k 0
  rwa [Nat.zero_mul] at this
theorem xor_split (n k : Nat) : (n % 2 ^ k) ^^^ (n / 2 ^ k * 2 ^ k) = n := by
  apply Nat.eq_of_testBit_eq
  intro i
  rw [Nat.testBit_xor, Nat.testBit_mod_two_pow, Nat.testBit_mul_two_pow]
  by_cases h : i < k
  · simp [h, Nat.not_le.2 h]
  · have h' : k ≤ i := by omega
    simp [h, h', Nat.testBit_div_two_pow, Nat.sub_add_cancel h', Nat.add_sub_cancel' h']
theorem add_xor {a k : Nat} (b : Nat) (h : a < 2 ^ k) : a + b * 2 ^ k = a ^^^ (b * 2 ^ k) := by
  have := xor_split (a + b * 2 ^ k) k
  rw [Nat.add_mul_mod_self_right, Nat.mod_eq_of_lt h, Nat.add_mul_div_right _ _ (Nat.two_pow_pos k), Nat.div_eq_of_lt h, Nat.zero_add] at this
  exact this.symm
/-- The bytes' number, the lowest first. -/
def leN : List Int → Nat
  | [] => 0
  | c :: l => c.toNat ^^^ (leN l * 256)
theorem leN_append (a b : List Int) : leN (a ++ b) = leN a ^^^ (leN b * 256 ^ a.length) := by
  induction a with
  | nil => simp [leN]
  | cons c a ih =>
    have hx : ∀ x y : Nat, (x ^^^ y) * 256 = (x * 256) ^^^ (y * 256) := fun x y => by
      apply Nat.eq_of_testBit_eq
      intro i
      rw [show (256 : Nat) = 2 ^ 8 from rfl, Nat.testBit_xor, Nat.testBit_mul_two_pow, Nat.testBit_mul_two_pow, Nat.testBit_mul_two_pow, Nat.testBit_xor]
      cases decide (8 ≤ i) <;> simp
    rw [List.cons_append, leN, leN, ih, hx, List.length_cons, Nat.pow_succ, Nat.xor_assoc, Nat.mul_assoc]
theorem leN_snoc (a : List Int) (c : Int) : leN (a ++ [c]) = leN a ^^^ (c.toNat * 256 ^ a.length) := by
  rw [leN_append]
  simp [leN]
/-- The register behind a byte. -/
def stpN (p r : Nat) (c : Int) : Nat := (r / 256) ^^^ Sn p 8 ((r % 256) ^^^ c.toNat)
theorem stpN_eq (p r : Nat) (c : Int) : stpN p r c = Sn p 8 (r ^^^ c.toNat) := by
  have h := xor_split r 8
  conv => rhs; rw [← h]
  rw [show (r % 2 ^ 8 ^^^ r / 2 ^ 8 * 2 ^ 8 ^^^ c.toNat) = ((r % 2 ^ 8 ^^^ c.toNat) ^^^ r / 2 ^ 8 * 2 ^ 8) by rw [Nat.xor_assoc, Nat.xor_comm (r / 2 ^ 8 * 2 ^ 8), Nat.xor_assoc], Sn_xor, Sn_shift, Nat.xor_comm]
  rfl
def moreN (p r : Nat) (l : List Int) : Nat := l.foldl (stpN p) r
theorem moreN_nil (p r : Nat) : moreN p r [] = r := rfl
theorem moreN_cons (p r : Nat) (c : Int) (l : List Int) : moreN p r (c :: l) = moreN p (stpN p r c) l := rfl
theorem moreN_append (p r : Nat) (a b : List Int) : moreN p r (a ++ b) = moreN p (moreN p r a) b := by simp [moreN]
theorem moreN_eq (p r : Nat) (l : List Int) : moreN p r l = Sn p (8 * l.length) (r ^^^ leN l) := by
  induction l generalizing r with
  | nil => simp [moreN, leN, Sn]
  | cons c l ih =>
    rw [moreN_cons, ih, stpN_eq, List.length_cons, show 8 * (l.length + 1) = 8 + 8 * l.length by omega, Sn_add, leN, ← Nat.xor_assoc, Sn_xor p 8 (r ^^^ c.toNat), show (256 : Nat) = 2 ^ 8 from rfl, Sn_shift]
theorem xor_zero_eq {a b : Nat} (h : a ^^^ b = 0) : a = b := by
  have h1 : (a ^^^ b) ^^^ b = b := by rw [h, Nat.zero_xor]
  rwa [Nat.xor_assoc, Nat.xor_self, Nat.xor_zero] at h1
theorem S_lt {p b n : Nat} (hp : p < 2 ^ b) (hn : n < 2 ^ b) : S p n < 2 ^ b := by
  unfold S
  split
  · exact Nat.xor_lt_two_pow (by omega) hp
  · omega
theorem Sn_lt {p b n : Nat} (k : Nat) (hp : p < 2 ^ b) (hn : n < 2 ^ b) : Sn p k n < 2 ^ b := by
  induction k with
  | zero => exact hn
  | succ k ih => exact S_lt hp ih
theorem stpN_lt {p b r : Nat} {c : Int} (hb : 8 ≤ b) (hp : p < 2 ^ b) (hr : r < 2 ^ b) (hc : 0 ≤ c ∧ c < 256) : stpN p r c < 2 ^ b := by
  rw [stpN_eq]
  have : 2 ^ 8 ≤ 2 ^ b := Nat.pow_le_pow_right (by decide) hb
  exact Sn_lt 8 hp (Nat.xor_lt_two_pow hr (by omega))
theorem moreN_lt {p b r : Nat} {l : List Int} (hb : 8 ≤ b) (hp : p < 2 ^ b) (hr : r < 2 ^ b) (hl : Bytes l) : moreN p r l < 2 ^ b := by
  induction l generalizing r with
  | nil => exact hr
  | cons c l ih => exact ih (stpN_lt hb hp hr (hl c (by simp))) (fun x hx => hl x (by simp [hx]))
theorem S_inj0 {p b n : Nat} (hp : 2 ^ (b - 1) ≤ p) (hb : 1 ≤ b) (hn : n < 2 ^ b) (h : S p n = 0) : n = 0 := by
  obtain ⟨c, rfl⟩ : ∃ c, b = c + 1 := ⟨b - 1, by omega⟩
  rw [Nat.add_sub_cancel] at hp
  rw [Nat.pow_succ] at hn
  unfold S at h
  split at h
  · have := xor_zero_eq h
    omega
  · omega
theorem Sn_inj0 {p b n : Nat} (k : Nat) (hp : 2 ^ (b - 1) ≤ p) (hp1 : p < 2 ^ b) (hb : 1 ≤ b) (hn : n < 2 ^ b) (h : Sn p k n = 0) : n = 0 := by
  induction k with
  | zero => exact h
  | succ k ih => exact ih (S_inj0 hp hb (Sn_lt k hp1 hn) h)
theorem Sn_inj {p b m n : Nat} (k : Nat) (hp : 2 ^ (b - 1) ≤ p) (hp1 : p < 2 ^ b) (hb : 1 ≤ b) (hm : m < 2 ^ b) (hn : n < 2 ^ b) (h : Sn p k m = Sn p k n) : m = n := by
  have h1 : Sn p k (m ^^^ n) = 0 := by rw [Sn_xor, h, Nat.xor_self]
  exact xor_zero_eq (Sn_inj0 k hp hp1 hb (Nat.xor_lt_two_pow hm hn) h1)
theorem leN_lt {l : List Int} (h : Bytes l) : leN l < 2 ^ (8 * l.length) := by
  induction l with
  | nil => simp [leN]
  | cons c l ih =>
    have hc := h c (by simp)
    have hl := ih (fun x hx => h x (by simp [hx]))
    rw [leN, List.length_cons, show (256 : Nat) = 2 ^ 8 from rfl, ← add_xor _ (by omega), show 8 * (l.length + 1) = 8 * l.length + 8 by omega, Nat.pow_add]
    omega
theorem leN_leb (n s : Nat) (h : n < 256 ^ s) : leN (leb (n : Int) s) = n := by
  induction s generalizing n with
  | zero => simp at h; subst h; rfl
  | succ s ih =>
    rw [Nat.pow_succ] at h
    rw [leb, leN, show ((n : Int) / 256) = ((n / 256 : Nat) : Int) by omega, ih (n / 256) (by omega), show ((n : Int) % 256).toNat = n % 2 ^ 8 by omega]
    exact xor_split n 8
theorem leb_leN {l : List Int} (h : Bytes l) : leb (leN l : Int) l.length = l := by
  induction l with
  | nil => rfl
  | cons c l ih =>
    have hc := h c (by simp)
    have hl := ih (fun x hx => h x (by simp [hx]))
    have e : leN (c :: l) = c.toNat + leN l * 256 := by
      rw [leN, show (256 : Nat) = 2 ^ 8 from rfl, ← add_xor _ (by omega)]
    rw [e, List.length_cons, leb, show (((c.toNat + leN l * 256 : Nat) : Int) % 256) = c by omega, show (((c.toNat + leN l * 256 : Nat) : Int) / 256) = (leN l : Int) by omega, hl]
theorem ones_sub {b m : Nat} (h : m < 2 ^ b) : (2 ^ b - 1) - m = m ^^^ (2 ^ b - 1) := by
  rw [show 2 ^ b - 1 - m = 2 ^ b - (m + 1) by omega]
  apply Nat.eq_of_testBit_eq
  intro i
  rw [Nat.testBit_two_pow_sub_succ h, Nat.testBit_xor, Nat.testBit_two_pow_sub_one]
  by_cases hi : i < b
  · simp [hi]
  · rw [Nat.testBit_lt_two_pow (Nat.lt_of_lt_of_le h (Nat.pow_le_pow_right (by decide) (by omega)))]
    simp [hi]
/-- The check sequences' numbers. -/
def byN (wide : Bool) : Nat := if wide = true then 3988292384 else 33800
def wid (wide : Bool) : Nat := if wide = true then 32 else 16
def allN (wide : Bool) : Nat := 2 ^ wid wide - 1
def goodN (wide : Bool) : Nat := if wide = true then 3736805603 else 61624
def sizeN (wide : Bool) : Nat := if wide = true then 4 else 2
theorem byN_lt (wide : Bool) : byN wide < 2 ^ wid wide := by cases wide <;> decide
theorem byN_ge (wide : Bool) : 2 ^ (wid wide - 1) ≤ byN wide := by cases wide <;> decide
theorem wid_ge (wide : Bool) : 8 ≤ wid wide := by cases wide <;> decide
theorem wid_le (wide : Bool) : wid wide ≤ 32 := by cases wide <;> decide
theorem wid_size (wide : Bool) : wid wide = 8 * sizeN wide := by cases wide <;> rfl
theorem allN_lt (wide : Bool) : allN wide < 2 ^ wid wide := by cases wide <;> decide
theorem good_eq (wide : Bool) : Sn (byN wide) (wid wide) (allN wide) = goodN wide := by cases wide <;> decide +kernel
def ofN (l : List Int) (wide : Bool) : Nat := moreN (byN wide) (allN wide) l ^^^ allN wide
theorem more_lt (l : List Int) (wide : Bool) (r : Nat) (hr : r < 2 ^ wid wide) (h : Bytes l) : moreN (byN wide) r l < 2 ^ wid wide := moreN_lt (wid_ge wide) (byN_lt wide) hr h
theorem of_lt (l : List Int) (wide : Bool) (h : Bytes l) : ofN l wide < 2 ^ wid wide := Nat.xor_lt_two_pow (more_lt l wide _ (allN_lt wide) h) (allN_lt wide)
theorem pow256_wid (wide : Bool) : 256 ^ sizeN wide = 2 ^ wid wide := by cases wide <;> decide
/-- What ends in the check sequence of what is ahead, and nothing else, leads to the good register. -/
theorem good_iff (x s : List Int) (wide : Bool) (hx : Bytes x) (hs : Bytes s) (hl : s.length = sizeN wide) : moreN (byN wide) (allN wide) (x ++ s) = goodN wide ↔ s = leb (ofN x wide : Int) (sizeN wide) := by
  have h1 : moreN (byN wide) (allN wide) (x ++ s) = Sn (byN wide) (wid wide) (moreN (byN wide) (allN wide) x ^^^ leN s) := by
    rw [moreN_append, moreN_eq _ _ s, hl, ← wid_size]
  have hm := more_lt x wide _ (allN_lt wide) hx
  have hn : leN s < 2 ^ wid wide := by
    have := leN_lt hs
    rwa [hl, ← wid_size] at this
  rw [h1, ← good_eq]
  constructor
  · intro h
    have e := Sn_inj (wid wide) (byN_ge wide) (byN_lt wide) (by have := wid_ge wide; omega) (Nat.xor_lt_two_pow hm hn) (allN_lt wide) h
    have e2 : leN s = ofN x wide := by
      unfold ofN
      conv => rhs; rhs; rw [← e]
      rw [← Nat.xor_assoc, Nat.xor_self, Nat.zero_xor]
    rw [← e2, ← hl, leb_leN hs]
  · intro h
    have e2 : leN s = ofN x wide := by
      rw [h, leN_leb _ _ (by rw [pow256_wid]; exact of_lt x wide hx)]
    rw [e2]
    unfold ofN
    rw [← Nat.xor_assoc, Nat.xor_self, Nat.zero_xor]
end Go.Proofs.Ytnokndhppdkmdaa.Q
