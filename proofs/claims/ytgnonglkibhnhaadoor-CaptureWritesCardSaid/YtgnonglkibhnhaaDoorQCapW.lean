/- Plain lemmas of this claim. -/
import Derived.Test.YtgnonglkibhnhaaDoorF9
import Derived.Test.YtgnonglkibhnhaaDoorF15
namespace Go.Proofs.YtgnonglkibhnhaaDoor.Q
open Go.RowKit Go.Proofs.YtgnonglkibhnhaaDoor.Print Go.Proofs.YtgnonglkibhnhaaDoorW.PrintWords Go.Proofs.YtgnonglkibhnhaaDoorW.PrintLast Go.Proofs.YtgnonglkibhnhaaDoorW.PrintMore
set_option linter.unusedVariables false
set_option linter.unusedSimpArgs false
theorem wf_u8 {x : Int} (h : (Lit.int .u8 x).wf = true) : 0 ≤ x ∧ x < 256 := by
 simp [Lit.wf, IntKind.min, IntKind.max, IntKind.bits, IntKind.signed] at h; omega
theorem wf_u32 {x : Int} (h : (Lit.int .u32 x).wf = true) : 0 ≤ x ∧ x < 4294967296 := by
 simp [Lit.wf, IntKind.min, IntKind.max, IntKind.bits, IntKind.signed] at h; omega
def Bytes (l : List Int) : Prop := ∀ x ∈ l, 0 ≤ x ∧ x < 256
theorem d0O {l : List Int} (h : ∀ x ∈ l, (Lit.int .u8 x).wf = true) : Bytes l := fun x hx => wf_u8 (h x hx)
theorem Bytes.nil : Bytes [] := fun _ h => by cases h
theorem Bytes.cons {x : Int} {l : List Int} (hx : 0 ≤ x ∧ x < 256) (h : Bytes l) : Bytes (x :: l) := by
 intro y hy
 rcases List.mem_cons.1 hy with rfl | hy
 ·exact hx
 ·exact h y hy
theorem Bytes.append {a b : List Int} (ha : Bytes a) (hb : Bytes b) : Bytes (a ++ b) := fun x hx => (List.mem_append.1 hx).elim (ha x) (hb x)
theorem Bytes.take {a : List Int} (n : Nat) (h : Bytes a) : Bytes (a.take n) := fun x hx => h x (List.mem_of_mem_take hx)
theorem Bytes.drop {a : List Int} (n : Nat) (h : Bytes a) : Bytes (a.drop n) := fun x hx => h x (List.mem_of_mem_drop hx)
theorem Bytes.reverse {a : List Int} (h : Bytes a) : Bytes a.reverse := fun x hx => h x (List.mem_reverse.1 hx)
theorem b6h {a : List Int} (i : Nat) (hi : i < a.length) : rd a (i : Int) = a[i] := by
 unfold rd
 rw [Int.toNat_natCast, List.getD_eq_getElem?_getD, List.getElem?_eq_getElem hi]
 rfl
theorem w64 {x : Int} (h0 : -9223372036854775808 ≤ x) (h1 : x ≤ 9223372036854775807) : wrap64 x = x := by unfold wrap64; omega
theorem wu64 (x : Int) : IntKind.u64.wrap x = x % 18446744073709551616 := by simp [IntKind.wrap, IntKind.bits, IntKind.signed]
theorem b7U {x : Int} (h0 : 0 ≤ x) (h1 : x < 18446744073709551616) : IntKind.u64.wrap x = x := by rw [wu64]; omega
theorem f7B (x : Int) : IntKind.u32.wrap x = x % 4294967296 := by simp [IntKind.wrap, IntKind.bits, IntKind.signed]
theorem d0P {x : Int} (h0 : 0 ≤ x) (h1 : x < 4294967296) : IntKind.u32.wrap x = x := by rw [f7B]; omega
theorem b2e {a b : Nat} (ha : a < 4294967296) (hb : b < 4294967296) : Go.bits .and .u32 (a : Int) (b : Int) = ((a &&& b : Nat) : Int) :=
 (bits_nat .u32 32 (by decide) (fun n h0 h1 => d0P h0 (by simpa using h1)) a b (by simpa using ha) (by simpa using hb)).1
theorem c5a {x : Int} (h0 : 0 ≤ x) (h1 : x < 4294967296) : Go.bits .and .u32 x 1 = x % 2 := by
 have := bits_mask .u32 32 (by decide) (fun n h0 h1 => d0P h0 (by simpa using h1)) 1 (by decide) x h0 (by simpa using h1)
 simpa using this
theorem Ev.const {α : Type} {g : Option α} {r : α} (h : g = some r) : Ev (fun _ => g) r := ⟨0, fun _ _ => h⟩
theorem d6J {k n : Nat} (h : n < k) : ∃ m, k = m + 1 ∧ n ≤ m := ⟨k - 1, by omega, by omega⟩
def leb (n : Int) : Nat → List Int
 | 0 => []
 | s + 1 => n % 256 :: leb (n / 256) s
theorem a2D (n : Int) (s : Nat) : (leb n s).length = s := by
 induction s generalizing n with
 | zero => rfl
 | succ s ih => simp [leb, ih]
theorem c8Z (n : Int) (s : Nat) : Bytes (leb n s) := by
 induction s generalizing n with
 | zero => exact Bytes.nil
 | succ s ih => exact Bytes.cons (by omega) (ih _)
theorem c5d (n : Int) (s i : Nat) (h : i < (leb n s).length) : (leb n s)[i] = n / 256 ^ i % 256 := by
 induction s generalizing n i with
 | zero => simp [leb] at h
 | succ s ih =>
  cases i with
  | zero => simp [leb]
  | succ i =>
   simp only [leb, List.getElem_cons_succ]
   rw [ih, Int.pow_succ, Int.mul_comm, Int.ediv_ediv_of_nonneg (by decide)]
theorem b6i (n : Int) (s : Nat) : leb n (s + 1) = leb n s ++ [n / 256 ^ s % 256] := by
 apply List.ext_getElem
 ·simp [a2D]
 ·intro i h1 h2; rw [c5d]; rw [a2D] at h1
  rcases Nat.lt_or_ge i s with hi | hi
  ·rw [List.getElem_append_left (by rw [a2D]; exact hi), c5d]
  ·obtain rfl : i = s := by omega
   rw [List.getElem_append_right (by rw [a2D]; exact Nat.le_refl _)]
   simp [a2D]
def a3u (n : Int) (s : Nat) (big : Bool) : List Int := if big then (leb n s).reverse else leb n s
theorem V7 (n : Int) (s : Nat) (big : Bool) : (a3u n s big).length = s := by
 unfold a3u; split <;> simp [a2D]
theorem c81 {i j : Nat} (h : i ≤ j) : (256 : Int) ^ i ≤ 256 ^ j := by
 have h1 : ∀ k : Nat, (256 : Int) ^ k = ((256 ^ k : Nat) : Int) := fun k => (Int.natCast_pow 256 k).symm
 rw [h1, h1]
 exact Int.ofNat_le.2 (Nat.pow_le_pow_right (by decide) h)
theorem d0Q : (256 : Int) ^ 8 = 18446744073709551616 := by decide
theorem c0H (i : Nat) : (256 : Int) ^ i = 2 ^ (8 * i) := by
 rw [show (256 : Int) = 2 ^ 8 from rfl, ← Int.pow_mul]
theorem c0I {n : Int} (h0 : 0 ≤ n) (h1 : n < 2 ^ 63) : IntKind.i64.wrap n = n := by
 rw [IntKind.wrap_i64]
 have : (2 : Int) ^ 63 = 9223372036854775808 := by decide
 omega
theorem d6K {x : Int} (h0 : 0 ≤ x) (h1 : x < 65536) : Go.bits .and .i64 x 1 = x % 2 := by
 have := bits_mask .i64 63 (by decide) (fun n h0 h1 => c0I h0 h1) 1 (by decide) x h0 (Int.lt_trans h1 (by decide))
 simpa using this
theorem c0J {x : Int} (h0 : 0 ≤ x) (h1 : x < 65536) : (Go.bits .and .i64 x 256 = 0) ↔ x / 256 % 2 = 0 := by
 obtain ⟨n, rfl⟩ := Int.eq_ofNat_of_zero_le h0
 have h := (bits_nat .i64 63 (by decide) (fun n h0 h1 => c0I h0 h1) n 256 (Nat.lt_trans (by omega : n < 65536) (by decide)) (by decide)).1
 have e : ((256 : Nat) : Int) = 256 := rfl
 rw [e] at h
 rw [h]
 have hb : n.testBit 8 = decide (n / 256 % 2 = 1) := Nat.testBit_eq_decide_div_mod_eq
 have ht : (n &&& 256).testBit 8 = n.testBit 8 := by
  rw [Nat.testBit_and, show (256 : Nat) = 2 ^ 8 from rfl, Nat.testBit_two_pow]
  simp
 constructor
 ·intro hz; have hz' : n &&& 256 = 0 := by omega
  rw [hz', Nat.zero_testBit, hb] at ht; have : ¬ (n / 256 % 2 = 1) := of_decide_eq_false ht.symm
  omega
 ·intro hz; have hf : n.testBit 8 = false := by
   rw [hb]; exact decide_eq_false (by omega)
  have : n &&& 256 = 0 := by
   apply Nat.eq_of_testBit_eq
   intro i; rw [Nat.testBit_and, show (256 : Nat) = 2 ^ 8 from rfl, Nat.testBit_two_pow, Nat.zero_testBit]
   by_cases c : 8 = i
   ·subst c
    simp [hf]
   ·simp [c]
  rw [this]
  rfl
def a4Y (p : Int) : Bool := decide (1 ≤ p ∧ p ≤ 65535 ∧ p % 2 = 1 ∧ p / 256 % 2 = 0 ∧ p ≠ 255)
theorem b6j (p : Int) : Z4.f p = some (a4Y p) := by
 unfold Z4.f a4Y
 by_cases a : p ≥ 1
 ·rw [if_pos a]
  by_cases b : p ≤ 65535
  ·rw [if_pos b, d6K (by omega) (by omega)]
   by_cases c : p % 2 = 1
   ·rw [if_pos c]
    by_cases d : p / 256 % 2 = 0
    ·rw [if_pos ((c0J (by omega) (by omega)).2 d)]
     congr 1
     rw [Bool.eq_iff_iff, bne_iff_ne, decide_eq_true_iff]; exact ⟨fun h => ⟨a, b, c, d, h⟩, fun h => h.2.2.2.2⟩
    ·rw [if_neg (fun h => d ((c0J (by omega) (by omega)).1 h))]
     simp [d]
   ·rw [if_neg c]
    simp [c]
  ·rw [if_neg b]
   simp [b]
 ·rw [if_neg a]
  simp [a]
def a6o (p : Int) (full short : Bool) : List Int := (if full then [255, 3] else []) ++ (if short = true ∧ p < 256 then [p % 256] else [p / 256 % 256, p % 256])
theorem c82 (p : Int) (full short : Bool) : head_Put.f p full short = some (if a4Y p then (a6o p full short, 0) else ([], 1)) := by
 unfold head_Put.f
 rw [b6j]
 simp only [Option.bind_some]
 by_cases m : a4Y p = true
 ·simp only [m, if_true]
  unfold a6o
  cases full <;> cases short <;> simp
  all_goals (split <;> simp)
 ·simp only [m]
  simp
def c83 (m c : Int) : Bool := decide (c < 32) && m.toNat.testBit c.toNat
theorem toNat_div (m : Int) (h : 0 ≤ m) (j : Nat) : (m / 2 ^ j) = ((m.toNat / 2 ^ j : Nat) : Int) := by
 obtain ⟨n, rfl⟩ := Int.eq_ofNat_of_zero_le h
 simp
theorem d0R (m : Int) (h : 0 ≤ m) (j : Nat) : ((m / 2 ^ j) % 2 == 1) = m.toNat.testBit j := by
 rw [Nat.testBit_eq_decide_div_mod_eq, toNat_div m h]
 rw [Bool.eq_iff_iff, beq_iff_eq, decide_eq_true_iff]
 omega
theorem d0S (m c : Int) (h0 : 0 ≤ m) (h1 : m < 4294967296) (hc : 0 ≤ c) : a3v.f m c = some (c83 m c) := by
 unfold a3v.f c83
 by_cases a : c < 32
 ·rw [if_pos a, if_pos hc]; have hs : shr .u32 m c = m / 2 ^ c.toNat := by
   unfold shr; rw [Nat.min_eq_left (by simp [IntKind.bits]; omega)]
  have hq0 : 0 ≤ m / 2 ^ c.toNat := Int.ediv_nonneg h0 (Int.le_of_lt (Int.pow_pos (by decide))); have hq1 : m / 2 ^ c.toNat ≤ m := Int.ediv_le_self _ h0; rw [hs, c5a hq0 (by omega), d0R m h0]
  simp [a]
 ·rw [if_neg a]
  simp [a]
def b3K (m c : Int) : Bool := decide (c = 125) || (decide (c = 126) || c83 m c)
theorem apart_spec (m c : Int) (h0 : 0 ≤ m) (h1 : m < 4294967296) (hc : 0 ≤ c) : a2b.f m c = some (b3K m c) := by
 unfold a2b.f b3K
 rw [d0S m c h0 h1 hc]
 by_cases a : c = 125
 ·simp [a]
 ·by_cases b : c = 126
  ·simp [b]
  ·simp [a, b]
def b7V (c : Int) : Int := Go.bits .xor .u8 c 32
theorem c84 (n : Nat) (h : n < 256) : b7V (n : Int) = ((n ^^^ 32 : Nat) : Int) := by
 have h1 : n ^^^ 32 < 2 ^ 8 := Nat.xor_lt_two_pow (by simpa using h) (by decide)
 have e2 : (BitVec.ofNat 8 n ^^^ 32#8).toNat = n ^^^ 32 := by
  rw [BitVec.toNat_xor, BitVec.toNat_ofNat, Nat.mod_eq_of_lt (show n < 2 ^ 8 by simpa using h)]
  rfl
 have e3 := wraps_u8 (((n ^^^ 32 : Nat) : Int)) (by omega) (by exact_mod_cast h1)
 rw [← e2] at e3
 rw [← e2]
 exact e3
theorem c0K {c : Int} (h : 0 ≤ c ∧ c < 256) : 0 ≤ b7V c ∧ b7V c < 256 := by
 obtain ⟨n, rfl⟩ := Int.eq_ofNat_of_zero_le h.1
 have h1 : n ^^^ 32 < 2 ^ 8 := Nat.xor_lt_two_pow (by omega) (by decide)
 rw [c84 n (by omega)]
 omega
def a4Z (m c : Int) : List Int := if b3K m c = true then [125, b7V c] else [c]
def a1t (l : List Int) (m : Int) : List Int := (l.map (a4Z m)).flatten
theorem d0T (m c : Int) (h0 : 0 ≤ m) (h1 : m < 4294967296) (hc : 0 ≤ c) : D9.piece m c = a4Z m c := by
 unfold D9.piece a4Z b7V
 rw [apart_spec m c h0 h1 hc]
 rfl
theorem c2Q (m c : Int) : 1 ≤ (a4Z m c).length ∧ (a4Z m c).length ≤ 2 := by
 unfold a4Z
 split <;> simp
theorem b6k (m : Int) : a1t [] m = [] := rfl
theorem a9A (c : Int) (l : List Int) (m : Int) : a1t (c :: l) m = a4Z m c ++ a1t l m := by simp [a1t]
theorem b7w (a b : List Int) (m : Int) : a1t (a ++ b) m = a1t a m ++ a1t b m := by simp [a1t]
theorem b1i (l : List Int) (m : Int) : l.length ≤ (a1t l m).length ∧ (a1t l m).length ≤ 2 * l.length := by
 induction l with
 | nil => simp [a1t]
 | cons c l ih =>
  have := c2Q m c; rw [a9A, List.length_append, List.length_cons]
  omega
theorem b8H {l : List Int} (h : Bytes l) (m : Int) : Bytes (a1t l m) := by
 induction l with
 | nil => exact Bytes.nil
 | cons c l ih =>
  rw [a9A]; refine Bytes.append ?_ (ih (fun x hx => h x (by simp [hx]))); have hc := h c (by simp); unfold a4Z
  split
  ·exact Bytes.cons (by omega) (Bytes.cons (c0K hc) Bytes.nil)
  ·exact Bytes.cons hc Bytes.nil
theorem c2R (l : List Int) (m : Int) (hb : Bytes l) (h0 : 0 ≤ m) (h1 : m < 4294967296) (hl : l.length < 70368744177664) : D9.f l m = some (a1t l m) := by
 have hm : l.map (D9.piece m) = l.map (a4Z m) := List.map_congr_left (fun c hc => d0T m c h0 h1 (hb c hc).1)
 have := (b1i l m).2
 unfold D9.f
 rw [hm]
 rw [if_pos]
 ·rfl
 ·refine ⟨List.all_eq_true.2 (fun c hc => ?_), by unfold a1t at this; omega⟩; rw [apart_spec m c h0 h1 (hb c hc).1]
  rfl
theorem c86 (m : Int) (h0 : 0 ≤ m) (h1 : m < 4294967296) (c : Nat) (hc : c < 32) (d : Nat) : ∀ i : Nat, c - i = d → i ≤ c →
  Ev (fun k => Q9.l0 k (m / 2 ^ i) (c : Int) (i : Int)) (m.toNat.testBit c) := by
 induction d with
 | zero =>
  intro i hd hi; obtain rfl : i = c := by omega
  have hq0 : 0 ≤ m / 2 ^ i := Int.ediv_nonneg h0 (Int.le_of_lt (Int.pow_pos (by decide))); refine Ev.step (f := fun _ => some (m.toNat.testBit i)) (fun k => ?_) (Ev.now _); rw [Q9.l0, if_neg (by omega), Int.tmod_eq_emod_of_nonneg hq0, d0R m h0]
 | succ d ih =>
  intro i hd hi; have hq0 : 0 ≤ m / 2 ^ i := Int.ediv_nonneg h0 (Int.le_of_lt (Int.pow_pos (by decide))); have hq1 : m / 2 ^ i ≤ m := Int.ediv_le_self _ h0; refine Ev.step (f := fun k => Q9.l0 k (m / 2 ^ (i + 1)) (c : Int) ((i + 1 : Nat) : Int)) (fun k => ?_) (ih (i + 1) (by omega) (by omega)); rw [Q9.l0, if_pos (by omega), Int.tdiv_eq_ediv_of_nonneg hq0, Int.emod_eq_of_lt (by omega) (by omega), Int.ediv_ediv_of_nonneg (Int.le_of_lt (Int.pow_pos (by decide))), ← Int.pow_succ, show ((i : Int) + 1) % 256 = ((i + 1 : Nat) : Int) by omega]
theorem c89 (m c : Int) (h0 : 0 ≤ m) (h1 : m < 4294967296) (hc : 0 ≤ c) : Ev (fun k => Q9.f k m c) (c83 m c) := by
 unfold Q9.f c83
 by_cases a : c > 31
 ·simp only [a, if_true]
  rw [show decide (c < 32) = false by simp; omega]; exact Ev.now _
 ·simp only [a, if_false]
  rw [show decide (c < 32) = true by simp; omega]; have := c86 m h0 h1 c.toNat (by omega) c.toNat 0 (by omega) (by omega); rw [show ((c.toNat : Nat) : Int) = c by omega] at this
  simpa using this
theorem c0L (m c : Int) (h0 : 0 ≤ m) (h1 : m < 4294967296) (hc : 0 ≤ c) : Ev (fun k => a0Z.f k m c) (b3K m c) := by
 unfold a0Z.f b3K
 by_cases a : c = 125
 ·simp only [a, if_true]
  exact Ev.now _
 ·by_cases b : c = 126
  ·simp only [a, b, if_true, if_false]
   exact Ev.now _
  ·simp only [a, b, if_false]
   have := Ev.bind (c89 m c h0 h1 hc) (Ev.now (c83 m c))
   simpa using this
theorem c0M (m : Int) (h0 : 0 ≤ m) (h1 : m < 4294967296) (l : List Int) (hb : Bytes l) (hl : l.length < 35184372088832) (d : Nat) : ∀ (i : Nat), l.length - i = d → i ≤ l.length →
  Ev (fun k => O8.l0 k l m (a1t (l.take i) m) (i : Int)) (a1t l m) := by
 induction d with
 | zero =>
  intro i hd hi; refine Ev.step (f := fun _ => some (a1t l m)) (fun k => ?_) (Ev.now _); rw [O8.l0, if_neg (by omega), List.take_of_length_le (by omega)]
 | succ d ih =>
  intro i hd hi; have hil : i < l.length := by omega
  have hc := hb _ (List.getElem_mem hil); have hn : a1t (l.take (i + 1)) m = a1t (l.take i) m ++ a4Z m l[i] := by
   rw [List.take_succ_eq_append_getElem hil, b7w, a9A, b6k, List.append_nil]
  have hlen := (b1i (l.take i) m).2; rw [List.length_take] at hlen; refine Ev.step (fun k => by rw [O8.l0, if_pos (by omega), if_pos (by omega), b6h i hil]) (Ev.bind (c0L m l[i] h0 h1 hc.1) ?_); have next := ih (i + 1) (by omega) (by omega); rw [hn] at next; have hw : ∀ x : Int, x = (i : Int) → wrap64 (x + 1) = ((i + 1 : Nat) : Int) := by
   intro x hx; rw [w64 (by omega) (by omega)]
   omega
  by_cases e : b3K m l[i] = true
  ·have hp : a4Z m l[i] = [125, b7V l[i]] := by
    unfold a4Z; rw [if_pos e]
   rw [hp] at next
   simp only [e, if_true, Option.bind_some, List.length_cons, List.length_nil, show (a1t (l.take i) m).length + (0 + 1 + 1) < 140737488355328 by omega, hw _ rfl]
   exact next
  ·have hp : a4Z m l[i] = [l[i]] := by
    unfold a4Z; rw [if_neg e]
   rw [hp] at next
   simp only [e, Bool.false_eq_true, if_false, show (a1t (l.take i) m).length < 140737488355328 by omega, if_true, hw _ rfl]
   exact next
theorem c0N (l : List Int) (m : Int) (hb : Bytes l) (h0 : 0 ≤ m) (h1 : m < 4294967296) (hl : l.length < 35184372088832) : Ev (fun k => O8.f k l m) (a1t l m) := by
 have := c0M m h0 h1 l hb hl l.length 0 (by omega) (by omega)
 rw [List.take_zero, b6k] at this
 exact this
def S (p n : Nat) : Nat := if n % 2 = 1 then (n / 2) ^^^ p else n / 2
def Sn (p : Nat) : Nat → Nat → Nat
 | 0, n => n
 | k + 1, n => S p (Sn p k n)
theorem d0U (a b : Nat) : (a ^^^ b) / 2 = (a / 2) ^^^ (b / 2) := by
 apply Nat.eq_of_testBit_eq
 intro i
 simp [Nat.testBit_xor, ← Nat.testBit_succ]
theorem d6L (a b : Nat) : ((a ^^^ b) % 2 = 1) ↔ ¬ ((a % 2 = 1) ↔ (b % 2 = 1)) := by
 have h : ∀ n : Nat, (n % 2 = 1) ↔ n.testBit 0 = true := fun n => by simp [Nat.testBit_zero]
 rw [h, h, h, Nat.testBit_xor]
 cases a.testBit 0 <;> cases b.testBit 0 <;> simp
theorem e6W (p a b : Nat) : S p (a ^^^ b) = S p a ^^^ S p b := by
 unfold S
 have h := d6L a b
 rw [d0U]
 by_cases ha : a % 2 = 1 <;> by_cases hb : b % 2 = 1
 ·rw [if_neg (by rw [h]; simp [ha, hb]), if_pos ha, if_pos hb]; rw [Nat.xor_assoc, ← Nat.xor_assoc p, Nat.xor_comm p, Nat.xor_assoc (b / 2), Nat.xor_self, Nat.xor_zero]
 ·rw [if_pos (by rw [h]; simp [ha, hb]), if_pos ha, if_neg hb, Nat.xor_assoc, Nat.xor_assoc, Nat.xor_comm p]
 ·rw [if_pos (by rw [h]; simp [ha, hb]), if_neg ha, if_pos hb, Nat.xor_assoc]
 ·rw [if_neg (by rw [h]; simp [ha, hb]), if_neg ha, if_neg hb]
theorem e2d (p k a b : Nat) : Sn p k (a ^^^ b) = Sn p k a ^^^ Sn p k b := by
 induction k with
 | zero => rfl
 | succ k ih => rw [Sn, ih, e6W]; rfl
theorem e2e (p a b n : Nat) : Sn p (a + b) n = Sn p b (Sn p a n) := by
 induction b with
 | zero => rfl
 | succ b ih => rw [← Nat.add_assoc, Sn, ih]; rfl
theorem Sn_succ (p k n : Nat) : Sn p (k + 1) n = Sn p k (S p n) := by
 rw [Nat.add_comm, e2e]
 rfl
theorem e6X (p n : Nat) : S p (n * 2) = n := by
 unfold S
 rw [if_neg (by omega)]
 omega
theorem d0V (p k n : Nat) : Sn p k (n * 2 ^ k) = n := by
 induction k generalizing n with
 | zero => simp [Sn]
 | succ k ih => rw [Sn, Nat.pow_succ, show n * (2 ^ k * 2) = n * 2 * 2 ^ k by rw [Nat.mul_comm (2 ^ k), Nat.mul_assoc], ih, e6X]
theorem c9a (n k : Nat) : (n % 2 ^ k) ^^^ (n / 2 ^ k * 2 ^ k) = n := by
 apply Nat.eq_of_testBit_eq
 intro i
 rw [Nat.testBit_xor, Nat.testBit_mod_two_pow, Nat.testBit_mul_two_pow]
 by_cases h : i < k
 ·simp [h, Nat.not_le.2 h]
 ·have h' : k ≤ i := by omega
  simp [h, h', Nat.testBit_div_two_pow, Nat.sub_add_cancel h', Nat.add_sub_cancel' h']
def c2S (p r : Nat) (c : Int) : Nat := (r / 256) ^^^ Sn p 8 ((r % 256) ^^^ c.toNat)
theorem b8I (p r : Nat) (c : Int) : c2S p r c = Sn p 8 (r ^^^ c.toNat) := by
 have h := c9a r 8
 conv => rhs; rw [← h]
 rw [show (r % 2 ^ 8 ^^^ r / 2 ^ 8 * 2 ^ 8 ^^^ c.toNat) = ((r % 2 ^ 8 ^^^ c.toNat) ^^^ r / 2 ^ 8 * 2 ^ 8) by rw [Nat.xor_assoc, Nat.xor_comm (r / 2 ^ 8 * 2 ^ 8), Nat.xor_assoc], e2d, d0V, Nat.xor_comm]
 rfl
def a6M (p r : Nat) (l : List Int) : Nat := l.foldl (c2S p) r
theorem c2T (p r : Nat) (c : Int) (l : List Int) : a6M p r (c :: l) = a6M p (c2S p r c) l := rfl
theorem c8U {p b n : Nat} (hp : p < 2 ^ b) (hn : n < 2 ^ b) : S p n < 2 ^ b := by
 unfold S
 split
 ·exact Nat.xor_lt_two_pow (by omega) hp
 ·omega
theorem d0W {p b n : Nat} (k : Nat) (hp : p < 2 ^ b) (hn : n < 2 ^ b) : Sn p k n < 2 ^ b := by
 induction k with
 | zero => exact hn
 | succ k ih => exact c8U hp ih
theorem b8J {p b r : Nat} {c : Int} (hb : 8 ≤ b) (hp : p < 2 ^ b) (hr : r < 2 ^ b) (hc : 0 ≤ c ∧ c < 256) : c2S p r c < 2 ^ b := by
 rw [b8I]
 have : 2 ^ 8 ≤ 2 ^ b := Nat.pow_le_pow_right (by decide) hb
 exact d0W 8 hp (Nat.xor_lt_two_pow hr (by omega))
theorem d0X {p b r : Nat} {l : List Int} (hb : 8 ≤ b) (hp : p < 2 ^ b) (hr : r < 2 ^ b) (hl : Bytes l) : a6M p r l < 2 ^ b := by
 induction l generalizing r with
 | nil => exact hr
 | cons c l ih => exact ih (b8J hb hp hr (hl c (by simp))) (fun x hx => hl x (by simp [hx]))
theorem d0Y {b m : Nat} (h : m < 2 ^ b) : (2 ^ b - 1) - m = m ^^^ (2 ^ b - 1) := by
 rw [show 2 ^ b - 1 - m = 2 ^ b - (m + 1) by omega]
 apply Nat.eq_of_testBit_eq
 intro i
 rw [Nat.testBit_two_pow_sub_succ h, Nat.testBit_xor, Nat.testBit_two_pow_sub_one]
 by_cases hi : i < b
 ·simp [hi]
 ·rw [Nat.testBit_lt_two_pow (Nat.lt_of_lt_of_le h (Nat.pow_le_pow_right (by decide) (by omega)))]
  simp [hi]
def byN (wide : Bool) : Nat := if wide = true then 3988292384 else 33800
def wid (wide : Bool) : Nat := if wide = true then 32 else 16
def a7J (wide : Bool) : Nat := 2 ^ wid wide - 1
def b2f (wide : Bool) : Nat := if wide = true then 4 else 2
theorem e2f (wide : Bool) : byN wide < 2 ^ wid wide := by cases wide <;> decide
theorem e2g (wide : Bool) : 8 ≤ wid wide := by cases wide <;> decide
theorem e2h (wide : Bool) : wid wide ≤ 32 := by cases wide <;> decide
theorem b2g (wide : Bool) : a7J wide < 2 ^ wid wide := by cases wide <;> decide
def ofN (l : List Int) (wide : Bool) : Nat := a6M (byN wide) (a7J wide) l ^^^ a7J wide
theorem b8K (l : List Int) (wide : Bool) (r : Nat) (hr : r < 2 ^ wid wide) (h : Bytes l) : a6M (byN wide) r l < 2 ^ wid wide := d0X (e2g wide) (e2f wide) hr h
theorem of_lt (l : List Int) (wide : Bool) (h : Bytes l) : ofN l wide < 2 ^ wid wide := Nat.xor_lt_two_pow (b8K l wide _ (b2g wide) h) (b2g wide)
theorem a5a {a b : Nat} (ha : a < 4294967296) (hb : b < 4294967296) : Go.bits .xor .u32 (a : Int) (b : Int) = ((a ^^^ b : Nat) : Int) := by
 have h1 : a ^^^ b < 2 ^ 32 := Nat.xor_lt_two_pow (by omega) (by omega)
 have e2 : (BitVec.ofNat 32 a ^^^ BitVec.ofNat 32 b).toNat = a ^^^ b := by
  rw [BitVec.toNat_xor, BitVec.toNat_ofNat, BitVec.toNat_ofNat, Nat.mod_eq_of_lt (show a < 2 ^ 32 by omega), Nat.mod_eq_of_lt (show b < 2 ^ 32 by omega)]
 have e3 := d0P (x := ((a ^^^ b : Nat) : Int)) (by omega) (by omega)
 rw [← e2] at e3
 rw [← e2]
 exact e3
theorem c0O {a b : Nat} (ha : a < 256) (hb : b < 256) : Go.bits .xor .u8 (a : Int) (b : Int) = ((a ^^^ b : Nat) : Int) := by
 have h1 : a ^^^ b < 2 ^ 8 := Nat.xor_lt_two_pow (by omega) (by omega)
 have e2 : (BitVec.ofNat 8 a ^^^ BitVec.ofNat 8 b).toNat = a ^^^ b := by
  rw [BitVec.toNat_xor, BitVec.toNat_ofNat, BitVec.toNat_ofNat, Nat.mod_eq_of_lt (by simpa using ha), Nat.mod_eq_of_lt (by simpa using hb)]
 have e3 := wraps_u8 (((a ^^^ b : Nat) : Int)) (by omega) (by omega)
 rw [← e2] at e3
 rw [← e2]
 exact e3
theorem d6M (p n : Nat) (hp : p < 2 ^ 32) (hn : n < 2 ^ 32) : G5.bit (p : Int) (n : Int) = ((S p n : Nat) : Int) := by
 unfold G5.bit S
 rw [c5a (by omega) (by omega), show ((n : Int) / 2) = ((n / 2 : Nat) : Int) by omega]
 by_cases h : n % 2 = 1
 ·rw [if_pos (by omega), if_pos h, a5a (by omega) (by omega)]
 ·rw [if_neg (by omega), if_neg h]
theorem d0Z (p n k : Nat) (hp : p < 2 ^ 32) (hn : n < 2 ^ 32) : G5.a8x (p : Int) k (n : Int) = ((Sn p k n : Nat) : Int) := by
 induction k with
 | zero => rfl
 | succ k ih => rw [G5.a8x, ih, d6M _ _ hp (d0W k hp hn)]; rfl
theorem e2i (wide : Bool) : G5.by wide = (byN wide : Int) := by cases wide <;> rfl
theorem d00 (wide : Bool) : byN wide < 2 ^ 32 := by cases wide <;> decide
theorem b0g (wide : Bool) : a7J wide < 4294967296 := by cases wide <;> decide
theorem c0P (wide : Bool) : a2Y.f wide = some (a7J wide : Int) := by cases wide <;> rfl
theorem d01 (wide : Bool) : a2j.f wide = some (b2f wide : Int) := by cases wide <;> rfl
theorem d6N (p r : Nat) (c : Int) (hp : p < 2 ^ 32) (hr : r < 2 ^ 32) (hc : 0 ≤ c ∧ c < 256) : Y0.stp (p : Int) (r : Int) c = ((c2S p r c : Nat) : Int) := by
 obtain ⟨n, rfl⟩ := Int.eq_ofNat_of_zero_le hc.1
 have h1 : r % 256 ^^^ n < 2 ^ 8 := Nat.xor_lt_two_pow (by omega) (by omega)
 have h2 : r % 256 ^^^ n < 2 ^ 32 := by omega
 unfold Y0.stp c2S
 rw [show ((r : Int) % 256) = ((r % 256 : Nat) : Int) by omega, c0O (by omega) (by omega), d0Z _ _ _ hp h2, show ((r : Int) / 256) = ((r / 256 : Nat) : Int) by omega, Int.toNat_natCast]
 exact a5a (by omega) (d0W 8 hp h2)
theorem d02 (p : Nat) (hp : p < 2 ^ 32) (l : List Int) (hl : Bytes l) : ∀ r : Nat, r < 2 ^ 32 → l.foldl (Y0.stp (p : Int)) (r : Int) = ((a6M p r l : Nat) : Int) := by
 induction l with
 | nil => intro r hr; rfl
 | cons c l ih =>
  intro r hr; have hc := hl c (by simp); rw [List.foldl_cons, d6N p r c hp hr hc, ih (fun x hx => hl x (by simp [hx])) _ (b8J (by decide) hp hr hc)]
  rfl
theorem c5f (n : Nat) (wide : Bool) : n &&& a7J wide = n % 2 ^ wid wide := Nat.and_two_pow_sub_one_eq_mod n (wid wide)
theorem c9c (n : Nat) (l : List Int) (wide : Bool) (hn : n < 4294967296) (hl : Bytes l) : Y0.f (n : Int) l wide = some ((a6M (byN wide) (n % 2 ^ wid wide) l : Nat) : Int) := by
 unfold Y0.f
 rw [c0P, Option.bind_some, e2i, b2e hn (b0g wide), c5f, d02 _ (d00 wide) l hl]
 have : n % 2 ^ wid wide ≤ n := Nat.mod_le _ _
 omega
theorem c5g (wide : Bool) : a7J wide % 2 ^ wid wide = a7J wide := Nat.mod_eq_of_lt (b2g wide)
theorem d03 (l : List Int) (wide : Bool) (hl : Bytes l) : Y0.f (a7J wide : Int) l wide = some ((a6M (byN wide) (a7J wide) l : Nat) : Int) := by
 have := c9c (a7J wide) l wide (b0g wide) hl
 rwa [c5g] at this
theorem e6Y {n : Nat} {wide : Bool} (h : n < 2 ^ wid wide) : n < 4294967296 := by
 have : 2 ^ wid wide ≤ 2 ^ 32 := Nat.pow_le_pow_right (by decide) (e2h wide)
 omega
theorem d6O (l : List Int) (wide : Bool) (hl : Bytes l) : b1j.f l wide = some ((ofN l wide : Nat) : Int) := by
 unfold b1j.f
 simp only [c0P, d03 l wide hl, Option.bind_some]
 rw [a5a (e6Y (b8K l wide _ (b2g wide) hl)) (b0g wide)]
 rfl
def a6N (l : List Int) (wide : Bool) : List Int := l ++ leb (ofN l wide : Int) (b2f wide)
theorem a9B {l : List Int} (h : Bytes l) (wide : Bool) : Bytes (a6N l wide) := h.append (c8Z _ _)
theorem a8y (l : List Int) (wide : Bool) : (a6N l wide).length = l.length + b2f wide := by
 unfold a6N
 rw [List.length_append, a2D]
theorem a7R (wide : Bool) : b2f wide ≤ 4 := by cases wide <;> decide
theorem c9d (d : Nat) : ∀ (i s : Nat) (acc : List Int) (n : Int), s = i + d → s ≤ 4 → acc.length + d < 140737488355328 → 0 ≤ n →
  Ev (fun k => a1V.l0 k acc n (s : Int) (i : Int)) (acc ++ leb n d) := by
 induction d with
 | zero =>
  intro i s acc n hs h4 ha hn; refine Ev.step (f := fun _ => some (acc ++ leb n 0)) (fun k => ?_) (Ev.now _); rw [a1V.l0, if_neg (by omega)]
  simp [leb]
 | succ d ih =>
  intro i s acc n hs h4 ha hn; have next := ih (i + 1) s (acc ++ [n % 256]) (n / 256) (by omega) h4 (by simp; omega) (by omega); rw [List.append_assoc] at next; refine Ev.step (fun k => ?_) next; rw [a1V.l0, if_pos (by omega), if_pos (by omega), w64 (by omega) (by omega)]
  rfl
theorem c9e (l : List Int) (wide : Bool) (hl : Bytes l) (hn : l.length ≤ 100000) : Ev (fun k => a1V.f k l wide) (a6N l wide) := by
 have h4 := a7R wide
 unfold a1V.f
 refine Ev.bind (Ev.const (show N8.f l = some l by unfold N8.f; rw [if_pos (by omega)])) ?_
 simp only [d6O l wide hl, d01, Option.bind_some]
 exact c9d (b2f wide) 0 (b2f wide) l (ofN l wide : Int) (by omega) h4 (by omega) (by omega)
theorem c0Q (wide : Bool) : a0s.f wide = some (a7J wide : Int) := by cases wide <;> rfl
theorem b7W (wide : Bool) : a1M.f wide = some (b2f wide : Int) := by cases wide <;> rfl
theorem c2V (p : Nat) (hp : p < 2 ^ 32) (l : List Int) (i : Nat) (r : Nat) (d : Nat) : ∀ (j w : Nat), j + d = 8 → w < 2 ^ 32 →
  Ev (fun k => F6.l0 k l (p : Int) ((Sn p d w : Nat) : Int) (wrap64 ((i : Int) + 1))) (r : Int) →
  Ev (fun k => F6.l1 k l (p : Int) (w : Int) (i : Int) (j : Int)) (r : Int) := by
 induction d with
 | zero =>
  intro j w hj hw h; refine Ev.step (fun k => ?_) h; rw [F6.l1, if_neg (by omega)]
  rfl
 | succ d ih =>
  intro j w hj hw h; rw [Sn_succ] at h; refine Ev.step (fun k => ?_) (ih (j + 1) (S p w) (by omega) (c8U hp hw) h); rw [F6.l1, if_pos (by omega)]; have e1 : Int.tmod (w : Int) 2 = ((w % 2 : Nat) : Int) := by
   rw [Int.tmod_eq_emod_of_nonneg (by omega)]
   omega
  have e2 : Int.tdiv (w : Int) 2 % 4294967296 = ((w / 2 : Nat) : Int) := by
   rw [Int.tdiv_eq_ediv_of_nonneg (by omega)]
   omega
  rw [e1, e2, w64 (by omega) (by omega)]; unfold S
  by_cases c : w % 2 = 1
  ·rw [if_pos (by omega), if_pos c, a5a (by omega) (by omega)]
   rfl
  ·rw [if_neg (by omega), if_neg c]
   rfl
theorem c2W (p : Nat) (hp : p < 2 ^ 32) (l : List Int) (hl : Bytes l) (hn : l.length ≤ 100000) (d : Nat) : ∀ (i w : Nat), l.length - i = d → i ≤ l.length → w < 2 ^ 32 →
  Ev (fun k => F6.l0 k l (p : Int) (w : Int) (i : Int)) ((a6M p w (l.drop i) : Nat) : Int) := by
 induction d with
 | zero =>
  intro i w hd hi hw; refine Ev.step (f := fun _ => some ((a6M p w (l.drop i) : Nat) : Int)) (fun k => ?_) (Ev.now _); rw [F6.l0, if_neg (by omega), List.drop_of_length_le (by omega)]
  rfl
 | succ d ih =>
  intro i w hd hi hw; have hil : i < l.length := by omega
  have hc := hl _ (List.getElem_mem hil); obtain ⟨c, e⟩ := Int.eq_ofNat_of_zero_le hc.1; have hc2 : c < 256 := by omega
  rw [List.drop_eq_getElem_cons hil, c2T]; refine Ev.step (fun k => ?_) (c2V p hp l i _ 8 0 (w ^^^ c) (by omega) (Nat.xor_lt_two_pow hw (by omega)) ?_)
  ·rw [F6.l0, if_pos (by omega), if_pos (by omega), b6h i hil, e, show ((c : Int) % 4294967296) = (c : Int) by omega, a5a (by omega) (by omega)]
   rfl
  ·have h := ih (i + 1) (c2S p w l[i]) (by omega) (by omega) (b8J (by decide) hp hw hc); rw [w64 (by omega) (by omega)]; rw [b8I, e, Int.toNat_natCast] at h; rw [b8I, e, Int.toNat_natCast]; exact h
theorem c2X (n : Nat) (l : List Int) (wide : Bool) (hn : n < 4294967296) (hl : Bytes l) (hs : l.length ≤ 100000) : Ev (fun k => F6.f k (n : Int) l wide) ((a6M (byN wide) (n % 2 ^ wid wide) l : Nat) : Int) := by
 have hm : n % 2 ^ wid wide < 2 ^ 32 := by
  have : n % 2 ^ wid wide ≤ n := Nat.mod_le _ _
  omega
 have h := c2W (byN wide) (d00 wide) l hl hs l.length 0 (n % 2 ^ wid wide) (by omega) (by omega) hm
 rw [List.drop_zero] at h
 have hj : Ev (fun k => F6.j0 k (n : Int) l wide (byN wide : Int)) ((a6M (byN wide) (n % 2 ^ wid wide) l : Nat) : Int) := by
  refine Ev.step (fun k => ?_) h; rw [F6.j0, c0Q, Option.bind_some, b2e hn (b0g wide), c5f]
  rfl
 unfold F6.f
 cases wide
 ·exact hj
 ·exact hj
theorem c9f (l : List Int) (wide : Bool) (hl : Bytes l) (hs : l.length ≤ 100000) : Ev (fun k => F6.f k (a7J wide : Int) l wide) ((a6M (byN wide) (a7J wide) l : Nat) : Int) := by
 have := c2X (a7J wide) l wide (b0g wide) hl hs
 rwa [c5g] at this
theorem d04 (l : List Int) (wide : Bool) (hl : Bytes l) (hs : l.length ≤ 100000) : Ev (fun k => a2E.f k l wide) ((ofN l wide : Nat) : Int) := by
 unfold a2E.f
 simp only [c0Q, Option.bind_some]
 refine Ev.bind (c9f l wide hl hs) ?_
 have h1 := b8K l wide _ (b2g wide) hl
 have h2 := d0Y h1
 have h3 := b0g wide
 have h4 : a6M (byN wide) (a7J wide) l ≤ a7J wide := by
  unfold a7J at h1 ⊢
  omega
 have h5 : (((a7J wide : Nat) : Int) - ((a6M (byN wide) (a7J wide) l : Nat) : Int)) % 4294967296 = ((ofN l wide : Nat) : Int) := by
  unfold ofN; unfold a7J at h2 h3 h4 ⊢; rw [← h2]
  omega
 rw [h5]
 exact Ev.now _
theorem c2Y (wide : Bool) (d : Nat) : ∀ (i : Nat) (acc : List Int) (n : Int), b2f wide = i + d → acc.length + d < 140737488355328 → 0 ≤ n → n < 4294967296 →
  Ev (fun k => P7.l0 k wide acc n (i : Int)) (acc ++ leb n d) := by
 have h4 := a7R wide
 induction d with
 | zero =>
  intro i acc n hs ha hn hn1; refine Ev.step (f := fun _ => some (acc ++ leb n 0)) (fun k => ?_) (Ev.now _); rw [P7.l0, b7W, Option.bind_some, if_neg (by omega)]
  simp [leb]
 | succ d ih =>
  intro i acc n hs ha hn hn1; have next := ih (i + 1) (acc ++ [n % 256]) (n / 256) (by omega) (by simp; omega) (by omega) (by omega); rw [List.append_assoc] at next; refine Ev.step (fun k => ?_) next; have e1 : Int.tmod n 256 % 256 = n % 256 := by
   rw [Int.tmod_eq_emod_of_nonneg hn]
   omega
  have e2 : Int.tdiv n 256 % 4294967296 = n / 256 := by
   rw [Int.tdiv_eq_ediv_of_nonneg hn]
   omega
  rw [P7.l0, b7W, Option.bind_some, if_pos (by omega), if_pos (by omega), e1, e2, w64 (by omega) (by omega)]
  rfl
theorem c2Z (l : List Int) (wide : Bool) (hl : Bytes l) (hn : l.length ≤ 100000) : Ev (fun k => P7.f k l wide) (a6N l wide) := by
 have h4 := a7R wide
 have h := c2Y wide (b2f wide) 0 l (ofN l wide : Int) (by omega) (by omega) (by omega) (by have := e6Y (of_lt l wide hl); omega)
 unfold P7.f
 simp only [List.length_nil, Nat.zero_add, List.nil_append, show l.length < 140737488355328 by omega, if_true]
 exact Ev.bind (d04 l wide hl hn) h
theorem b0h (l : List (List Int)) (i : Nat) (h : i < l.length) : a0X l (i : Int) = l[i] := by
 unfold a0X
 rw [Int.toNat_natCast, List.getD_eq_getElem?_getD, List.getElem?_eq_getElem h]
 rfl
def a4q (m : Int) (wide : Bool) (x : List Int) : List Int := a1t (a6N x wide) m ++ [126]
theorem b1k (m : Int) (wide : Bool) (x : List Int) (h : x.length ≤ 70000) : (a4q m wide x).length ≤ 140009 := by
 unfold a4q
 have h1 := (b1i (a6N x wide) m).2
 have h2 := a7R wide
 rw [a8y] at h1
 rw [List.length_append, List.length_singleton]
 omega
def b6l (m : Int) (wide : Bool) : List Int → List (List Int) → List Int × Int
 | acc, [] => (acc, 0)
 | acc, x :: t => if (x.length : Int) < 2 then ([], 1) else if (x.length : Int) > 65535 then ([], 4) else b6l m wide (acc ++ a4q m wide x) t
def c9g (m : Int) (wide : Bool) (l : List (List Int)) : List Int × Int := b6l m wide [126] l
theorem d05 (m : Int) (wide : Bool) (h0 : 0 ≤ m) (h1 : m < 4294967296) (l : List (List Int)) (hb : ∀ x ∈ l, Bytes x) (hn : l.length ≤ 50) (hx : ∀ x ∈ l, x.length ≤ 70000) : ∀ (d i : Nat) (acc : List Int), l.length - i = d → i ≤ l.length → acc.length ≤ 1 + 150000 * i →
  Ev (fun k => a0M.l0 k m wide acc l (l.length : Int) (i : Int)) (b6l m wide acc (l.drop i)) := by
 intro d
 induction d with
 | zero =>
  intro i acc hd hi ha; rw [List.drop_eq_nil_of_le (by omega)]; refine Ev.step (f := fun _ => some (acc, 0)) (fun k => ?_) (Ev.now _); rw [a0M.l0, if_neg (by omega)]
 | succ d ih =>
  intro i acc hd hi ha; have hlt : i < l.length := by omega
  have hbi := hb l[i] (List.getElem_mem hlt); have hxi := hx l[i] (List.getElem_mem hlt); rw [List.drop_eq_getElem_cons hlt, b6l]
  by_cases a : (l[i].length : Int) < 2
  ·rw [if_pos a]; refine Ev.step (f := fun _ => some ([], 1)) (fun k => ?_) (Ev.now _); rw [a0M.l0, if_pos (by omega), if_pos (by omega), if_pos (by omega), b0h l i hlt, if_pos a]
  ·rw [if_neg a]
   by_cases b : (l[i].length : Int) > 65535
   ·rw [if_pos b]; refine Ev.step (f := fun _ => some ([], 4)) (fun k => ?_) (Ev.now _); rw [a0M.l0, if_pos (by omega), if_pos (by omega), if_pos (by omega), b0h l i hlt, if_neg a, if_pos b]
   ·rw [if_neg b]; have hz := a7R wide; have hfl := b1k m wide l[i] hxi; have hlen : (a6N l[i] wide).length < 70368744177664 := by rw [a8y]; omega
    refine Ev.step (f := fun k => (a1V.f k l[i] wide).bind fun t => (D9.f t m).bind fun u => (o7.f [acc, u, [126]]).bind fun z => a0M.l0 k m wide z l (l.length : Int) (wrap64 ((i : Int) + 1))) (fun k => ?_) ?_
    ·rw [a0M.l0, if_pos (by omega), if_pos (by omega), if_pos (by omega), b0h l i hlt, if_neg a, if_neg b]
    ·refine Ev.bind (c9e l[i] wide hbi (by omega)) ?_; have e : o7.f [acc, a1t (a6N l[i] wide) m, [126]] = some (acc ++ a4q m wide l[i]) := by
      have e1 : [acc, a1t (a6N l[i] wide) m, [126]].flatten = acc ++ a4q m wide l[i] := by simp [a4q]
      unfold o7.f; rw [e1, if_pos (by rw [List.length_append]; omega)]
     have next := ih (i + 1) (acc ++ a4q m wide l[i]) (by omega) (by omega) (by rw [List.length_append]; omega); have e2 : wrap64 ((i : Int) + 1) = ((i + 1 : Nat) : Int) := w64 (by omega) (by omega); refine Ev.congr (f := fun k => a0M.l0 k m wide (acc ++ a4q m wide l[i]) l (l.length : Int) ((i + 1 : Nat) : Int)) (fun k => ?_) next; rw [c2R _ m (a9B hbi wide) h0 h1 hlen, Option.bind_some, e, Option.bind_some, e2]
theorem d06 (m : Int) (wide : Bool) (h0 : 0 ≤ m) (h1 : m < 4294967296) (l : List (List Int)) (hb : ∀ x ∈ l, Bytes x) (hn : l.length ≤ 50) (hx : ∀ x ∈ l, x.length ≤ 70000) : Ev (fun k => a0M.f k l m wide) (c9g m wide l) := d05 m wide h0 h1 l hb hn hx l.length 0 [126] (by omega) (by omega) (by simp)
theorem c27 (m : Int) (wide : Bool) (h0 : 0 ≤ m) (h1 : m < 4294967296) (x : List Int) (hb : Bytes x) (hx : x.length ≤ 70000) : Ev (fun k => a4K.f k x m wide) (c9g m wide [x]) := by
 have h := d06 m wide h0 h1 [x] (fun y hy => by rw [List.mem_singleton.1 hy]; exact hb) (by simp) (fun y hy => by rw [List.mem_singleton.1 hy]; exact hx)
 generalize c9g m wide [x] = r at h ⊢
 obtain ⟨r1, r2⟩ := r
 unfold a4K.f
 exact Ev.bind h (Ev.now _)
theorem c9h (m : Int) (wide : Bool) (h0 : 0 ≤ m) (h1 : m < 4294967296) (l : List (List Int)) (hb : ∀ x ∈ l, Bytes x) (hn : l.length ≤ 50) (hx : ∀ x ∈ l, x.length ≤ 70000) : ∀ (d i : Nat) (acc : List Int), l.length - i = d → i ≤ l.length → acc.length ≤ 1 + 150000 * i →
  Ev (fun k => O7.l0 k l m wide acc (i : Int)) (b6l m wide acc (l.drop i)) := by
 intro d
 induction d with
 | zero =>
  intro i acc hd hi ha; rw [List.drop_eq_nil_of_le (by omega)]; refine Ev.step (f := fun _ => some (acc, 0)) (fun k => ?_) (Ev.now _); rw [O7.l0, if_neg (by omega)]
 | succ d ih =>
  intro i acc hd hi ha; have hlt : i < l.length := by omega
  have hbi := hb l[i] (List.getElem_mem hlt); have hxi := hx l[i] (List.getElem_mem hlt); rw [List.drop_eq_getElem_cons hlt, b6l]
  by_cases a : (l[i].length : Int) < 2
  ·rw [if_pos a]; refine Ev.step (f := fun _ => some ([], 1)) (fun k => ?_) (Ev.now _); rw [O7.l0, if_pos (by omega), if_pos (by omega), b0h l i hlt, if_pos a]
  ·rw [if_neg a]
   by_cases b : (l[i].length : Int) > 65535
   ·rw [if_pos b]; refine Ev.step (f := fun _ => some ([], 4)) (fun k => ?_) (Ev.now _); rw [O7.l0, if_pos (by omega), if_pos (by omega), b0h l i hlt, if_neg a, if_pos b]
   ·rw [if_neg b]; have hz := a7R wide; have hfl := b1k m wide l[i] hxi; have hlen : (a6N l[i] wide).length < 35184372088832 := by rw [a8y]; omega
    have g7x : (a1t (a6N l[i] wide) m).length ≤ 140009 := by unfold a4q at hfl; rw [List.length_append] at hfl; omega
    have k1 : acc.length + (a1t (a6N l[i] wide) m).length < 140737488355328 := by omega
    have k2 : (acc ++ a1t (a6N l[i] wide) m).length < 140737488355328 := by rw [List.length_append]; exact k1
    have e3 : acc ++ a1t (a6N l[i] wide) m ++ [126] = acc ++ a4q m wide l[i] := by simp [a4q]
    have next := ih (i + 1) (acc ++ a4q m wide l[i]) (by omega) (by omega) (by rw [List.length_append]; omega); have g1 : ((i : Nat) : Int) < ((l.length : Nat) : Int) := by omega
    have g2 : (0 : Int) ≤ ((i : Nat) : Int) := by omega
    have g3 : l[i].length ≤ 100000 := by omega
    have e2 : wrap64 ((i : Int) + 1) = ((i + 1 : Nat) : Int) := w64 (by omega) (by omega); refine Ev.step (f := fun k => (P7.f k l[i] wide).bind fun t => (O8.f k t m).bind fun u => if acc.length + u.length < 140737488355328 then ((some (acc ++ u : List Int)).bind fun y => if y.length < 140737488355328 then O7.l0 k l m wide (y ++ [126]) (wrap64 ((i : Int) + 1)) else none) else none) (fun k => ?_) ?_
    ·rw [O7.l0, if_pos g1, if_pos g2, b0h l i hlt, if_neg a, if_neg b]
    ·refine Ev.bind (c2Z l[i] wide hbi g3) (Ev.bind (c0N _ m (a9B hbi wide) h0 h1 hlen) ?_); refine Ev.congr (f := fun k => O7.l0 k l m wide (acc ++ a4q m wide l[i]) ((i + 1 : Nat) : Int)) (fun k => ?_) next; rw [if_pos k1, Option.bind_some, if_pos k2, e2, e3]
theorem c9i (m : Int) (wide : Bool) (h0 : 0 ≤ m) (h1 : m < 4294967296) (l : List (List Int)) (hb : ∀ x ∈ l, Bytes x) (hn : l.length ≤ 50) (hx : ∀ x ∈ l, x.length ≤ 70000) : Ev (fun k => O7.f k l m wide) (c9g m wide l) := c9h m wide h0 h1 l hb hn hx l.length 0 [126] (by omega) (by omega) (by simp)
theorem c0R (m : Int) (wide : Bool) (x : List Int) : c9g m wide [x] = if (x.length : Int) < 2 then ([], 1) else if (x.length : Int) > 65535 then ([], 4) else (126 :: a4q m wide x, 0) := by
 unfold c9g
 rw [b6l]
 rfl
theorem div_zero {n p : Int} (h0 : 0 ≤ n) (hp : 0 < p) : n / p = 0 ↔ n < p := by
 constructor
 ·intro h; have h1 := Int.mul_ediv_add_emod n p; have h2 := Int.emod_lt_of_pos n hp; rw [h, Int.mul_zero] at h1
  omega
 ·intro h; exact Int.ediv_eq_zero_of_lt h0 h
def fits (n : Int) (s : Int) : Bool := decide (1 ≤ s) && decide (s ≤ 8) && decide (n < 256 ^ s.toNat)
theorem b7X (n s : Int) (h0 : 0 ≤ n) (h1 : n < 18446744073709551616) : a1N.f n s = some (fits n s) := by
 unfold a1N.f fits
 by_cases a : 1 ≤ s
 ·rw [if_pos a]
  by_cases b : s ≤ 8
  ·rw [if_pos b]
   by_cases c : s = 8
   ·subst c; rw [if_pos rfl]
    simp [d0Q, h1]
   ·rw [if_neg c, w64 (by omega) (by omega), if_pos (by omega)]; have hs : shr .u64 n (8 * s) = n / 256 ^ s.toNat := by
     unfold shr; rw [Nat.min_eq_left (by simp [IntKind.bits]; omega), c0H, show (8 * s).toNat = 8 * s.toNat by omega]
    rw [hs]; have hp : (0 : Int) < 256 ^ s.toNat := Int.pow_pos (by decide); have : (n / 256 ^ s.toNat == 0) = decide (n < 256 ^ s.toNat) := by
     rw [Bool.eq_iff_iff, beq_iff_eq, decide_eq_true_iff]; exact div_zero h0 hp
    simp [this, a, b]
  ·rw [if_neg b]
   simp [b]
 ·rw [if_neg a]
  simp [a]
theorem d07 (x : List Int) (hm : x.length ≤ 4611686018427387904) (d : Nat) : ∀ (y : List Int) (i : Nat) (k : Nat), y.length = x.length → 2 * i ≤ x.length → x.length + 1 - 2 * i ≤ d → d < k →
  (∀ p, (hp : p < x.length) → (hq : p < y.length) → y[p] = if p < i ∨ x.length - i ≤ p then x[x.length - 1 - p]'(by omega) else x[p]) →
  D7.l0 k y (i : Int) ((x.length : Int) - 1 - i) = some x.reverse := by
 induction d with
 | zero => intro y i k hl hi hd hk h; omega
 | succ d ih =>
  intro y i k hl hi hd hk h; obtain ⟨k, rfl, hk⟩ := d6J hk; rw [D7.l0]
  by_cases c : (i : Int) < (x.length : Int) - 1 - i
  ·rw [if_pos c, if_pos (by omega), if_pos (by omega), if_pos (by omega), if_pos (by omega)]; rw [show ((x.length : Int) - 1 - (i : Int)) = ((x.length - 1 - i : Nat) : Int) by omega]; rw [b6h (a := y) (x.length - 1 - i) (by omega), b6h (a := y) i (by omega), Int.toNat_natCast, Int.toNat_natCast]; rw [w64 (by omega) (by omega), w64 (by omega) (by omega)]; have := ih ((y.set i (y[x.length - 1 - i]'(by omega))).set (x.length - 1 - i) (y[i]'(by omega))) (i + 1) k (by simp [hl]) (by omega) (by omega) (by omega) (by
    intro p hp hq; have hi1 := h i (by omega) (by omega); have hj1 := h (x.length - 1 - i) (by omega) (by omega); have hp1 := h p hp (by omega)
    simp only [List.getElem_set]
    by_cases e1 : x.length - 1 - i = p
    ·subst e1
     simp only [if_true]
     rw [hi1, if_neg (by omega), if_pos (by omega)]
     congr 1
     omega
    ·rw [if_neg e1]
     by_cases e2 : i = p
     ·subst e2
      simp only [if_true]
      rw [hj1, if_neg (by omega), if_pos (by omega)]
     ·rw [if_neg e2, hp1]
      by_cases e3 : p < i ∨ x.length - i ≤ p
      ·rw [if_pos e3, if_pos (by omega)]
      ·rw [if_neg e3, if_neg (by omega)])
   rw [show ((i : Int) + 1) = ((i + 1 : Nat) : Int) by omega, show (((x.length - 1 - i : Nat) : Int) - 1) = (x.length : Int) - 1 - ((i + 1 : Nat) : Int) by omega]; exact this
  ·rw [if_neg c]
   congr 1
   apply List.ext_getElem
   ·simp [hl]
   ·intro p hp hq
    simp only [List.length_reverse] at hq
    rw [List.getElem_reverse, h p (by omega) hp]
    by_cases e : p < i ∨ x.length - i ≤ p
    ·rw [if_pos e]
    ·rw [if_neg e]
     congr 1
     omega
theorem b8L (x : List Int) (hm : x.length ≤ 4611686018427387904) : Ev (fun k => D7.f k x) x.reverse := by
 refine ⟨x.length + 3, fun k hk => ?_⟩
 show D7.f k x = _
 unfold D7.f
 rw [w64 (by omega) (by omega)]
 have := d07 x hm (x.length + 2) x 0 k rfl (by omega) (by omega) (by omega) (by
  intro p hp hq; rw [if_neg (by omega)])
 simpa using this
theorem d08 (n : Int) (h0 : 0 ≤ n) (s : Nat) (hs : s ≤ 8) (big : Bool) (d : Nat) : ∀ (i : Nat) (y : List Int), s - i = d → i ≤ s → y = leb n i ++ List.replicate (s - i) 0 →
  Ev (fun k => a0z.l0 k n big y (s : Int) (i : Int)) (a3u n s big, true) := by
 induction d with
 | zero =>
  intro i y hd hi hy; obtain rfl : i = s := by omega
  rw [Nat.sub_self, List.replicate_zero, List.append_nil] at hy; subst hy; refine Ev.step (f := fun k => if big = true then ((D7.f k (leb n i)).bind fun t => (some (t, true))) else (some (leb n i, true))) (fun k => ?_) ?_
  ·rw [a0z.l0, if_neg (by omega)]
  ·unfold a3u
   cases big
   ·exact Ev.const rfl
   ·simp only [if_true]
    exact Ev.bind (b8L _ (by rw [a2D]; omega)) (Ev.now _)
 | succ d ih =>
  intro i y hd hi hy; have hlen : y.length = s := by
   subst hy
   simp [a2D]
   omega
  refine Ev.step (f := fun k => a0z.l0 k n big (leb n (i + 1) ++ List.replicate (s - (i + 1)) 0) (s : Int) ((i + 1 : Nat) : Int)) (fun k => ?_) (ih (i + 1) _ (by omega) (by omega) rfl); rw [a0z.l0, if_pos (by omega), w64 (by omega) (by omega), if_pos (by omega), if_pos (by omega), if_pos (by omega), w64 (by omega) (by omega), Int.toNat_natCast]; have hsh : shr .u64 n (8 * (i : Int)) = n / 256 ^ i := by
   unfold shr; rw [Nat.min_eq_left (by simp [IntKind.bits]; omega), c0H, show (8 * (i : Int)).toNat = 8 * i by omega]
  have : y.set i (shr .u64 n (8 * (i : Int)) % 256) = leb n (i + 1) ++ List.replicate (s - (i + 1)) 0 := by
   rw [hsh, hy, b6i, show s - i = (s - (i + 1)) + 1 by omega, List.replicate_succ, List.set_append_right _ _ (by rw [a2D]; exact Nat.le_refl _)]
   simp [a2D]
  rw [this]
  rfl
theorem c0S (n s : Int) (big : Bool) (h0 : 0 ≤ n) (h1 : n < 18446744073709551616) : Ev (fun k => a0z.f k n s big) (if fits n s then (a3u n s.toNat big, true) else ([], false)) := by
 unfold a0z.f
 rw [b7X n s h0 h1]
 simp only [Option.bind_some]
 by_cases c : fits n s = true
 ·simp only [c, if_true]
  have hf : 1 ≤ s ∧ s ≤ 8 := by
   unfold fits at c
   simp only [Bool.and_eq_true, decide_eq_true_eq] at c
   exact c.1
  simp only [show (0 : Int) ≤ s by omega, show s.toNat ≤ 281474976710656 by omega, if_true]
  have := d08 n h0 s.toNat (by omega) big s.toNat 0 (List.replicate s.toNat 0) (by omega) (by omega) (by simp [leb]); rw [show ((s.toNat : Nat) : Int) = s by omega] at this; exact this
 ·simp only [c, if_false]
  exact Ev.const rfl
theorem c9j (n : Int) (h0 : 0 ≤ n) (h1 : n < 18446744073709551616) (s : Nat) (hs : s ≤ 8) (big : Bool) (d : Nat) : ∀ (i : Nat), s - i = d → i ≤ s →
  Ev (fun k => J6.l0 k (n / 256 ^ i) (s : Int) big (a3u n i big) (i : Int)) (a3u n s big) := by
 induction d with
 | zero =>
  intro i hd hi; obtain rfl : i = s := by omega
  refine Ev.step (f := fun _ => some (a3u n i big)) (fun k => ?_) (Ev.now _); rw [J6.l0, if_neg (by omega)]
 | succ d ih =>
  intro i hd hi; refine Ev.step (f := fun k => J6.l0 k (n / 256 ^ (i + 1)) (s : Int) big (a3u n (i + 1) big) ((i + 1 : Nat) : Int)) (fun k => ?_) (ih (i + 1) (by omega) (by omega)); have hq0 : 0 ≤ n / 256 ^ i := Int.ediv_nonneg h0 (Int.le_of_lt (Int.pow_pos (by decide))); have hq1 : n / 256 ^ i ≤ n := Int.ediv_le_self _ h0; have hdv : IntKind.u64.wrap (Int.tdiv (n / 256 ^ i) 256) = n / 256 ^ (i + 1) := by
   rw [Int.tdiv_eq_ediv_of_nonneg hq0, Int.ediv_ediv_of_nonneg (Int.le_of_lt (Int.pow_pos (by decide))), ← Int.pow_succ, b7U]
   ·exact Int.ediv_nonneg h0 (Int.le_of_lt (Int.pow_pos (by decide)))
   ·exact Int.lt_of_le_of_lt (Int.ediv_le_self _ h0) h1
  have hmd : Int.tmod (n / 256 ^ i) 256 % 256 = n / 256 ^ i % 256 := by
   rw [Int.tmod_eq_emod_of_nonneg hq0]
   omega
  have hl : (a3u n i big).length = i := V7 _ _ _; rw [J6.l0, if_pos (by omega), hdv, hmd, w64 (by omega) (by omega)]
  cases big
  ·simp only [Bool.false_eq_true, if_false]
   rw [if_pos (by omega)]; have : a3u n i false ++ [n / 256 ^ i % 256] = a3u n (i + 1) false := by
    unfold a3u
    simp only [Bool.false_eq_true, if_false]
    rw [b6i]
   rw [this]
   rfl
  ·simp only [if_true, Option.bind_some]
   rw [if_pos (by simp [hl]; omega)]; have : [n / 256 ^ i % 256] ++ a3u n i true = a3u n (i + 1) true := by
    unfold a3u
    simp only [if_true]
    rw [b6i, List.reverse_append]
    rfl
   rw [this]
   rfl
theorem a7S (n : Int) (s : Nat) (big : Bool) (h0 : 0 ≤ n) (h1 : n < 18446744073709551616) (hs : s ≤ 8) : Ev (fun k => J6.f k n (s : Int) big) (a3u n s big) := by
 have := c9j n h0 h1 s hs big s 0 (by omega) (by omega)
 have e : a3u n 0 big = [] := by unfold a3u; cases big <;> rfl
 rw [e] at this
 simp only [Int.pow_zero, Int.ediv_one] at this
 exact this
def a3I (l : List Int) (s : Nat) (big : Bool) : List Int := (l.map fun n => a3u n s big).flatten
theorem a4d (l : List Int) (s : Nat) (big : Bool) : (a3I l s big).length = l.length * s := by
 unfold a3I
 induction l with
 | nil => simp
 | cons a l ih => rw [List.map_cons, List.flatten_cons, List.length_append, V7, ih, List.length_cons, Nat.add_mul]; omega
theorem c3a (l : List Int) (s : Nat) (big : Bool) (i : Nat) (hi : i < l.length) : a3I (l.take (i + 1)) s big = a3I (l.take i) s big ++ a3u l[i] s big := by
 unfold a3I
 rw [List.take_succ_eq_append_getElem hi, List.map_append, List.flatten_append]
 simp
theorem c9k (big : Bool) (s : Nat) (hs1 : 1 ≤ s) (hs : s ≤ 4) (l : List Int) (hl : l.length ≤ 8) (hr : ∀ x ∈ l, 0 ≤ x ∧ x < 256 ^ s) (d : Nat) : ∀ (i : Nat), l.length - i = d → i ≤ l.length →
  Ev (fun k => a0t.l0 k big s (a3I (l.take i) s big) l l.length i) (a3I l s big) := by
 induction d with
 | zero =>
  intro i hd hi; obtain rfl : i = l.length := by omega
  refine Ev.step (fun k => by rw [a0t.l0, if_neg (by omega)]) ?_; rw [List.take_length]; exact Ev.now _
 | succ d ih =>
  intro i hd hi; have hlt : i < l.length := by omega
  have hx := hr l[i] (List.getElem_mem hlt); have hp : (256 : Int) ^ s ≤ 256 ^ 4 := c81 hs; have h4 : (256 : Int) ^ 4 = 4294967296 := by decide
  rw [h4] at hp; have e1 : IntKind.u64.wrap (rd l (i : Int)) = l[i] := by rw [b6h i hlt]; exact b7U hx.1 (by omega)
  have hw : wrap64 ((i : Int) + 1) = ((i + 1 : Nat) : Int) := by rw [w64 (by omega) (by omega)]; omega
  have hf : fits l[i] (s : Int) = true := by
   unfold fits
   simp only [Int.toNat_natCast, Bool.and_eq_true, decide_eq_true_eq]
   exact ⟨⟨by omega, by omega⟩, hx.2⟩
  have hps := c0S l[i] (s : Int) big hx.1 (by omega); rw [hf, if_pos rfl, Int.toNat_natCast] at hps; have hlen : (a3I (l.take i) s big).length + (a3u l[i] s big).length < 140737488355328 := by
   rw [a4d, V7, List.length_take]; have : min i l.length * s ≤ 8 * 4 := Nat.mul_le_mul (by omega) hs
   omega
  refine Ev.step (fun k => by rw [a0t.l0, if_pos (by omega), if_pos (by omega), if_pos (by omega), e1]) ?_; refine Ev.bind hps ?_; refine Ev.congr (fun k => if_pos hlen) ?_; have hg := ih (i + 1) (by omega) (by omega); rw [c3a l s big i hlt] at hg; rw [hw]; exact hg
theorem b0i (big : Bool) (s : Nat) (hs1 : 1 ≤ s) (hs : s ≤ 4) (l : List Int) (hl : l.length ≤ 8) (hr : ∀ x ∈ l, 0 ≤ x ∧ x < 256 ^ s) : Ev (fun k => a0t.f k big s l) (a3I l s big) :=
 c9k big s hs1 hs l hl hr l.length 0 (by omega) (by omega)
theorem a5G (l : List Int) (n : Int) (big : Bool) (h0 : 0 ≤ n) (h1 : n < 4294967296) (hl : l.length < 140737488355324) : Ev (fun k => N9.f k l n big) (l ++ a3u n 4 big) := by
 unfold N9.f
 rw [b7U h0 (by omega)]
 refine Ev.bind (a7S n 4 big h0 (by omega) (by omega)) ?_
 exact Ev.congr (fun k => if_pos (by rw [V7]; omega)) (Ev.now _)
def d09 (big : Bool) (r : S51) : List Int := a3I [r.f0, r.f1, (r.f3.length : Int), r.f2] 4 big ++ r.f3
def b0K (nano : Bool) : Int := if nano = true then 2712812621 else 2712847316
def a6O (big nano : Bool) (snap link : Int) : List Int := a3I [b0K nano] 4 big ++ (a3I [2, 4] 2 big ++ a3I [0, 0, snap, link] 4 big)
def b6m (big : Bool) : List Int → List S51 → List Int × Int
 | y, [] => (y, 0)
 | y, r :: l => if (r.f3.length : Int) > 131072 then ([], 4) else b6m big (y ++ d09 big r) l
def b8M : List S51 → Nat
 | [] => 0
 | r :: l => 16 + r.f3.length + b8M l
def Good (r : S51) : Prop := (0 ≤ r.f0 ∧ r.f0 < 4294967296) ∧ (0 ≤ r.f1 ∧ r.f1 < 4294967296) ∧ (0 ≤ r.f2 ∧ r.f2 < 4294967296)
theorem c5h (l : List S51) (i : Nat) (h : i < l.length) : H9 l (i : Int) = l[i] := by
 unfold H9
 rw [Int.toNat_natCast, List.getD_eq_getElem?_getD, List.getElem?_eq_getElem h]
 rfl
theorem c3b : (256 : Int) ^ 4 = 4294967296 := by decide
theorem c0T (big n : Bool) (s k0 : Int) (l : List S51) (hm : l.length ≤ 4611686018427387904) (hg : ∀ r ∈ l, Good r) (d : Nat) : ∀ (i : Nat) (y : List Int), l.length - i = d → i ≤ l.length → y.length + b8M (l.drop i) < 140737488355328 →
  Ev (fun k => pcap_Put.l0 k y l l.length i big n s k0) (b6m big y (l.drop i)) := by
 induction d with
 | zero =>
  intro i y hd hi hc; obtain rfl : i = l.length := by omega
  refine Ev.step (fun k => by rw [pcap_Put.l0, if_neg (by omega)]) ?_; rw [List.drop_length]; exact Ev.now _
 | succ d ih =>
  intro i y hd hi hc; have hlt : i < l.length := by omega
  have hdr : l.drop i = l[i] :: l.drop (i + 1) := List.drop_eq_getElem_cons hlt; have hgr := hg l[i] (List.getElem_mem hlt); have e1 := c5h l i hlt; have hw : wrap64 ((i : Int) + 1) = ((i + 1 : Nat) : Int) := by rw [w64 (by omega) (by omega)]; omega
  rw [hdr] at hc ⊢; have ih2 := ih (i + 1); generalize l[i] = r at hgr e1 hc ⊢; obtain ⟨g0, g1, g2⟩ := hgr; refine Ev.step (fun k => by rw [pcap_Put.l0, if_pos (by omega), if_pos (by omega), if_pos (by omega), e1]) ?_; unfold b8M at hc; unfold b6m
  by_cases h : (r.f3.length : Int) > 131072
  ·rw [if_pos h]; exact Ev.congr (fun k => if_pos h) (Ev.now _)
  ·rw [if_neg h]; refine Ev.congr (fun k => if_neg h) ?_; have hmod : (r.f3.length : Int) % 4294967296 = r.f3.length := Int.emod_eq_of_lt (by omega) (by omega); rw [hmod]; refine Ev.bind (b0i big 4 (by omega) (by omega) [r.f0, r.f1, (r.f3.length : Int), r.f2] (by simp) (by
    intro x hx; rw [c3b]
    simp only [List.mem_cons, List.not_mem_nil, or_false] at hx
    rcases hx with rfl | rfl | rfl | rfl <;> omega)) ?_
   have hl := a4d [r.f0, r.f1, (r.f3.length : Int), r.f2] 4 big
   simp only [List.length_cons, List.length_nil] at hl
   unfold d09; generalize a3I [r.f0, r.f1, (r.f3.length : Int), r.f2] 4 big = z at hl ⊢; refine Ev.congr (fun k => if_pos (by omega)) ?_; refine Ev.congr (fun k => Option.bind_some ..) ?_; refine Ev.congr (fun k => if_pos (by rw [List.length_append]; omega)) ?_; rw [hw, List.append_assoc]; exact ih2 _ (by omega) (by omega) (by rw [List.length_append, List.length_append]; omega)
theorem c3c (big n : Bool) (s k0 : Int) (l : List S51) (hm : l.length ≤ 4611686018427387904) (hg : ∀ r ∈ l, Good r) (d : Nat) : ∀ (i : Nat) (y : List Int), l.length - i = d → i ≤ l.length → y.length + b8M (l.drop i) < 140737488355300 →
  Ev (fun k => umpireref09_Put.l0 k l y i big n s k0) (b6m big y (l.drop i)) := by
 induction d with
 | zero =>
  intro i y hd hi hc; obtain rfl : i = l.length := by omega
  refine Ev.step (fun k => by rw [umpireref09_Put.l0, if_neg (by omega)]) ?_; rw [List.drop_length]; exact Ev.now _
 | succ d ih =>
  intro i y hd hi hc; have hlt : i < l.length := by omega
  have hdr : l.drop i = l[i] :: l.drop (i + 1) := List.drop_eq_getElem_cons hlt; have hgr := hg l[i] (List.getElem_mem hlt); have e1 := c5h l i hlt; have hw : wrap64 ((i : Int) + 1) = ((i + 1 : Nat) : Int) := by rw [w64 (by omega) (by omega)]; omega
  rw [hdr] at hc ⊢; have ih2 := ih (i + 1); generalize l[i] = r at hgr e1 hc ⊢; obtain ⟨g0, g1, g2⟩ := hgr; refine Ev.step (fun k => by rw [umpireref09_Put.l0, if_pos (by omega), if_pos (by omega), e1]) ?_; unfold b8M at hc; unfold b6m
  by_cases h : (r.f3.length : Int) > 131072
  ·rw [if_pos h]; exact Ev.congr (fun k => if_pos h) (Ev.now _)
  ·rw [if_neg h]; refine Ev.congr (fun k => if_neg h) ?_; have hmod : (r.f3.length : Int) % 4294967296 = r.f3.length := Int.emod_eq_of_lt (by omega) (by omega); rw [hmod]; refine Ev.bind (a5G y r.f0 big g0.1 g0.2 (by omega)) ?_; refine Ev.bind (a5G _ r.f1 big g1.1 g1.2 (by rw [List.length_append, V7]; omega)) ?_; refine Ev.bind (a5G _ (r.f3.length : Int) big (by omega) (by omega) (by rw [List.length_append, List.length_append, V7, V7]; omega)) ?_; refine Ev.bind (a5G _ r.f2 big g2.1 g2.2 (by rw [List.length_append, List.length_append, List.length_append, V7, V7, V7]; omega)) ?_; have hz : y ++ a3u r.f0 4 big ++ a3u r.f1 4 big ++ a3u (r.f3.length : Int) 4 big ++ a3u r.f2 4 big = y ++ a3I [r.f0, r.f1, (r.f3.length : Int), r.f2] 4 big := by
    unfold a3I
    simp
   rw [hz]; have hl := a4d [r.f0, r.f1, (r.f3.length : Int), r.f2] 4 big
   simp only [List.length_cons, List.length_nil] at hl
   unfold d09; generalize a3I [r.f0, r.f1, (r.f3.length : Int), r.f2] 4 big = z at hl ⊢; refine Ev.congr (fun k => if_pos (by rw [List.length_append]; omega)) ?_; rw [hw, List.append_assoc]; exact ih2 _ (by omega) (by omega) (by rw [List.length_append, List.length_append]; omega)
theorem b2h (big nano : Bool) (s k0 : Int) : (a6O big nano s k0).length = 24 := by
 unfold a6O
 rw [List.length_append, List.length_append, a4d, a4d, a4d]
 rfl
theorem b4k (nano : Bool) : 0 ≤ b0K nano ∧ b0K nano < 4294967296 := by cases nano <;> decide
theorem e2j (big : Bool) : ([0, 0, 0, 0, 0, 0, 0, 0] : List Int) = a3u 0 4 big ++ a3u 0 4 big := by cases big <;> rfl
theorem c0U (big nano : Bool) (s k0 : Int) (l : List S51) (hm : l.length ≤ 4611686018427387904) (hg : ∀ r ∈ l, Good r) (hs : 0 ≤ s ∧ s < 4294967296) (hk : 0 ≤ k0 ∧ k0 < 4294967296) (hc : b8M l ≤ 140000000000) :
  Ev (fun k => pcap_Put.f k big nano s k0 l) (b6m big (a6O big nano s k0) l) := by
 have hh := b2h big nano s k0
 have hloop := c0T big nano s k0 l hm hg l.length 0 (a6O big nano s k0) (by omega) (by omega) (by rw [List.drop_zero]; omega)
 rw [List.drop_zero] at hloop
 have hj : Ev (fun k => pcap_Put.j0 k l (b0K nano) big nano s k0) (b6m big (a6O big nano s k0) l) := by
  have hmk := b4k nano; refine Ev.step (fun k => by rw [pcap_Put.j0]) ?_; refine Ev.bind (b0i big 4 (by omega) (by omega) [b0K nano] (by simp) (by
   intro x hx; rw [c3b]
   simp only [List.mem_cons, List.not_mem_nil, or_false] at hx
   rw [hx]; exact hmk)) ?_
  refine Ev.bind (b0i big 2 (by omega) (by omega) [2, 4] (by simp) (by
   intro x hx
   simp only [List.mem_cons, List.not_mem_nil, or_false] at hx
   rcases hx with rfl | rfl <;> decide)) ?_
  refine Ev.bind (b0i big 4 (by omega) (by omega) [0, 0, s, k0] (by simp) (by
   intro x hx; rw [c3b]
   simp only [List.mem_cons, List.not_mem_nil, or_false] at hx
   rcases hx with rfl | rfl | rfl | rfl <;> omega)) ?_
  have f7C : o7.f [a3I [b0K nano] 4 big, a3I [2, 4] 2 big, a3I [0, 0, s, k0] 4 big] = some (a6O big nano s k0) := by
   have he : [a3I [b0K nano] 4 big, a3I [2, 4] 2 big, a3I [0, 0, s, k0] 4 big].flatten = a6O big nano s k0 := by
    unfold a6O
    simp
   unfold o7.f; rw [he, if_pos (by rw [hh]; omega)]
  refine Ev.congr (fun k => by rw [f7C, Option.bind_some]) ?_; exact hloop
 unfold pcap_Put.f
 cases nano with
 | false => exact Ev.congr (fun k => if_neg (by decide)) hj
 | true => exact Ev.congr (fun k => if_pos rfl) hj
theorem c3d (big nano : Bool) (s k0 : Int) (hs : 0 ≤ s ∧ s < 4294967296) (hk : 0 ≤ k0 ∧ k0 < 4294967296) : Ev (fun k => umpireref09_Header.f k big nano s k0) (a6O big nano s k0) := by
 have hj : Ev (fun k => umpireref09_Header.j0 k (b0K nano) big nano s k0) (a6O big nano s k0) := by
  have hmk := b4k nano; refine Ev.step (fun k => by rw [umpireref09_Header.j0]) ?_; refine Ev.bind (a5G [] (b0K nano) big hmk.1 hmk.2 (by simp)) ?_; refine Ev.bind (a7S 2 2 big (by omega) (by omega) (by omega)) ?_; refine Ev.congr (fun k => if_pos (by rw [List.length_append, V7, V7]; simp)) ?_; refine Ev.congr (fun k => Option.bind_some ..) ?_; refine Ev.bind (a7S 4 2 big (by omega) (by omega) (by omega)) ?_; refine Ev.congr (fun k => if_pos (by rw [List.length_append, List.length_append, V7, V7, V7]; simp)) ?_; refine Ev.congr (fun k => Option.bind_some ..) ?_; refine Ev.congr (fun k => Option.bind_some ..) ?_; refine Ev.congr (fun k => if_pos (by simp only [List.length_append, V7, List.length_cons, List.length_nil]; omega)) ?_; refine Ev.bind (a5G _ s big hs.1 hs.2 (by simp only [List.length_append, V7, List.length_cons, List.length_nil]; omega)) ?_; refine Ev.bind (a5G _ k0 big hk.1 hk.2 (by simp only [List.length_append, V7, List.length_cons, List.length_nil]; omega)) ?_; have he : [] ++ a3u (b0K nano) 4 big ++ a3u 2 2 big ++ a3u 4 2 big ++ [0, 0, 0, 0, 0, 0, 0, 0] ++ a3u s 4 big ++ a3u k0 4 big = a6O big nano s k0 := by
   rw [e2j big]; unfold a6O a3I
   simp
  rw [he]; exact Ev.now _
 unfold umpireref09_Header.f
 cases nano with
 | false => exact Ev.congr (fun k => if_neg (by decide)) hj
 | true => exact Ev.congr (fun k => if_pos rfl) hj
theorem b8N (big nano : Bool) (s k0 : Int) (l : List S51) (hm : l.length ≤ 4611686018427387904) (hg : ∀ r ∈ l, Good r) (hs : 0 ≤ s ∧ s < 4294967296) (hk : 0 ≤ k0 ∧ k0 < 4294967296) (hc : b8M l ≤ 140000000) :
  Ev (fun k => umpireref09_Put.f k big nano s k0 l) (b6m big (a6O big nano s k0) l) := by
 have hh := b2h big nano s k0
 have hloop := c3c big nano s k0 l hm hg l.length 0 (a6O big nano s k0) (by omega) (by omega) (by rw [List.drop_zero]; omega)
 rw [List.drop_zero] at hloop
 unfold umpireref09_Put.f
 exact Ev.bind (c3d big nano s k0 hs hk) hloop
def Fine (r : S51) : Prop := Q.Good r ∧ (r.f3.length : Int) ≤ 131072
abbrev Note := S58
def a9C (x : Note) : Prop := (-9223372036854775808 ≤ x.f0 ∧ x.f0 ≤ 9223372036854775807) ∧ (0 ≤ x.f1 ∧ x.f1 < 4294967296) ∧ Bytes x.f2
theorem c5i (l : List Note) (i : Nat) (h : i < l.length) : D5 l (i : Int) = l[i] := by
 unfold D5
 rw [Int.toNat_natCast, List.getD_eq_getElem?_getD, List.getElem?_eq_getElem h]
 rfl
def a2N (kind n : Int) (data : List Int) : Bool :=
 if kind = 1 ∨ kind = 2 then n == 0
 else if 0 < data.length then false
 else if kind = 3 ∨ kind = 4 then n == 0
 else if kind = 5 ∨ kind = 7 then true
 else if kind = 6 then decide (n < 256) else false
theorem b3L {kind n : Int} {data : List Int} (h : a2N kind n data = true) : 1 ≤ kind ∧ kind ≤ 7 := by
 unfold a2N at h
 (repeat' split at h) <;> first | omega | cases h
def a9D (kind n : Int) (data : List Int) : List Int :=
 kind :: (if kind ≤ 2 then ((data.length : Int) / 256) :: ((data.length : Int) % 256) :: data else if kind = 6 then [n] else if kind = 5 ∨ kind = 7 then a3u n 4 true else [])
theorem b6n (kind n : Int) (data : List Int) : (a9D kind n data).length ≤ data.length + 5 := by
 unfold a9D
 (repeat' split) <;> simp [V7] <;> omega
def a81 (acc : List Int) : List Note → List Int × Int
 | [] => (acc, 0)
 | x :: l => if a2N x.f0 x.f1 x.f2 then (if 65535 < x.f2.length then ([], 4) else a81 (acc ++ a9D x.f0 x.f1 x.f2) l) else ([], 1)
def tot : List Note → Nat
 | [] => 0
 | x :: l => x.f2.length + 5 + tot l
theorem c3e (l m : List Note) : tot (l ++ m) = tot l + tot m := by
 induction l with
 | nil => simp [tot]
 | cons a l ih =>
  simp only [List.cons_append, tot, ih]
  omega
def c0V (l : List Note) : Bool := l.all fun x => a2N x.f0 x.f1 x.f2 && decide (x.f2.length ≤ 65535)
def b3M (l : List Note) : List Int := l.flatMap fun x => a9D x.f0 x.f1 x.f2
theorem c0W (l : List Note) : ∀ acc, c0V l = true → a81 acc l = (acc ++ b3M l, 0) := by
 induction l with
 | nil => intro acc _; simp [a81, b3M]
 | cons a l ih =>
  intro acc h
  simp only [c0V, List.all_cons, Bool.and_eq_true, decide_eq_true_eq] at h
  rw [a81, if_pos h.1.1, if_neg (by omega), ih _ (by simpa only [c0V, List.all_eq_true, Bool.and_eq_true, decide_eq_true_eq] using h.2)]
  simp [b3M, List.append_assoc]
theorem kinds {k : Int} (h1 : ¬ k < 1) (h2 : ¬ k > 7) : k = 1 ∨ k = 2 ∨ k = 3 ∨ k = 4 ∨ k = 5 ∨ k = 6 ∨ k = 7 := by omega
theorem c3f {n : Int} (h1 : n < 4294967296) : fits n 4 = true := by
 unfold fits
 simp only [Bool.and_eq_true, decide_eq_true_eq]
 refine ⟨⟨by omega, by omega⟩, ?_⟩
 rw [show (256 : Int) ^ (4 : Int).toNat = 4294967296 by decide]
 exact h1
theorem d1a (n : Int) : fits n 1 = decide (n < 256) := by
 unfold fits
 rw [show (256 : Int) ^ (1 : Int).toNat = 256 by decide]
 simp
theorem d1b (n : Int) : fits n 0 = false := by
 unfold fits
 simp
theorem e2k (k : Nat) (kind n : Int) (data : List Int) (h1 : ¬ kind < 1) (h2 : ¬ kind > 7) (hn0 : 0 ≤ n) (hn : n < 4294967296) : a1g.j0 (k + 1) false kind n data = some (a2N kind n data) := by
 rw [a1g.j0, if_neg (by decide), if_pos (by omega), if_pos (by omega), b7U hn0 (by omega)]
 have f : ∀ s, a1N.f n s = some (fits n s) := fun s => b7X n s hn0 (by omega)
 unfold a2N
 by_cases e : n = 0
 ·by_cases hd : 0 < data.length
  ·rcases kinds h1 h2 with rfl | rfl | rfl | rfl | rfl | rfl | rfl <;> simp [J4, G7, e, hd]
  ·rcases kinds h1 h2 with rfl | rfl | rfl | rfl | rfl | rfl | rfl <;> simp [J4, G7, e, hd]
 ·by_cases hd : 0 < data.length
  ·rcases kinds h1 h2 with rfl | rfl | rfl | rfl | rfl | rfl | rfl <;> simp [J4, G7, e, hd]
  ·rcases kinds h1 h2 with rfl | rfl | rfl | rfl | rfl | rfl | rfl <;> simp [J4, G7, e, hd, f, c3f hn, d1a]
theorem c5j {kind n : Int} {data : List Int} (h : kind < 1 ∨ kind > 7) : a2N kind n data = false := by
 cases e : a2N kind n data with
 | false => rfl
 | true =>
  have := b3L e
  omega
theorem c3g (kind n : Int) (data : List Int) (hn0 : 0 ≤ n) (hn : n < 4294967296) : Ev (fun k => a1g.f k kind n data) (a2N kind n data) := by
 unfold a1g.f
 by_cases h1 : kind < 1
 ·simp only [if_pos h1]
  rw [c5j (.inl h1)]; exact Ev.step (f := fun _ => some false) (fun k => by rw [a1g.j0, if_pos rfl]) (Ev.now _)
 ·simp only [if_neg h1]
  by_cases h2 : kind > 7
  ·simp only [h2, decide_true]
   rw [c5j (.inr h2)]; exact Ev.step (f := fun _ => some false) (fun k => by rw [a1g.j0, if_pos rfl]) (Ev.now _)
  ·simp only [h2, decide_false]
   exact Ev.step (f := fun _ => some (a2N kind n data)) (fun k => e2k k kind n data h1 h2 hn0 hn) (Ev.now _)
theorem c0X (kind n : Int) (data : List Int) : Ev (fun k => S9.f k kind n data) (a2N kind n data) := by
 unfold S9.f
 have t : ∀ (b : Bool), b = decide (kind = 1 ∨ kind = 2) → Ev (fun k => S9.j0 k b kind n data) (a2N kind n data) := by
  intro b hb; refine Ev.step (f := fun _ => some (a2N kind n data)) (fun k => ?_) (Ev.now _); rw [S9.j0, hb]; unfold a2N
  by_cases h : kind = 1 ∨ kind = 2
  ·simp [h]
  ·simp only [h, decide_false, Bool.false_eq_true, if_false]
   by_cases hd : 0 < data.length
   ·rw [if_pos (by omega), if_pos hd]
   ·rw [if_neg (by omega), if_neg hd]
    by_cases e3 : kind = 3
    ·simp [e3]
    ·by_cases e4 : kind = 4
     ·simp [e4]
     ·by_cases e5 : kind = 5
      ·simp [e5]
      ·by_cases e7 : kind = 7
       ·simp [e7]
       ·by_cases e6 : kind = 6
        ·simp [e6]
        ·simp [e3, e4, e5, e6, e7]
 by_cases h1 : kind = 1
 ·simp only [if_pos h1]
  exact t true (by simp [h1])
 ·simp only [if_neg h1]
  exact t (kind == 2) (by rw [Bool.eq_iff_iff]; simp [h1])
theorem e2l {n : Int} (h0 : 0 ≤ n) (h : n < 256) : a3u n 1 true = [n] := by
 unfold a3u leb leb
 simp
 omega
theorem d1c (x : Note) (hx : a9C x) (hm : a2N x.f0 x.f1 x.f2 = true) (hl : x.f2.length ≤ 65535) (acc : List Int) (ha : acc.length + (x.f2.length + 5) < 140737488355328) {G : Nat → List Int → Option (List Int × Int)} {r : List Int × Int}
  (hG : Ev (fun k => G k (acc ++ a9D x.f0 x.f1 x.f2)) r) :
  Ev (fun k => (if acc.length < 140737488355328 then ((some (acc ++ [(x.f0) % 256] : List Int)).bind fun d6P => (if 0 ≤ (x.f0) then (if (x.f0) < 8 then (if (J4 G7 (x.f0)).f0 = true then ((some (([(((x.f2).length : Int) / 256) % 256, (((x.f2).length : Int)) % 256] : List Int) : List Int)).bind fun e6Z => (if d6P.length + e6Z.length < 140737488355328 then ((some (d6P ++ e6Z : List Int)).bind fun e66 => (if e66.length + (x.f2).length < 140737488355328 then (G k (e66 ++ (x.f2))) else (none))) else (none))) else ((a0z.f k (IntKind.u64.wrap (x.f1)) ((J4 G7 (x.f0)).f1) true).bind fun e0g => (if d6P.length + e0g.1.length < 140737488355328 then (G k (d6P ++ e0g.1)) else (none)))) else (none)) else (none))) else (none))) r := by
 have hk := b3L hm
 obtain ⟨_, hn, hb⟩ := hx
 have hko : x.f0 % 256 = x.f0 := by omega
 simp only [if_pos (show acc.length < 140737488355328 by omega), Option.bind_some, if_pos (show 0 ≤ x.f0 by omega), if_pos (show x.f0 < 8 by omega), hko]
 by_cases h2 : x.f0 ≤ 2
 ·have e : (J4 G7 x.f0).f0 = true := by
   obtain h | h : x.f0 = 1 ∨ x.f0 = 2 := by omega
   all_goals rw [h]; rfl
  simp only [e, if_true, List.length_append, List.length_cons, List.length_nil]
  refine Ev.congr (fun k => if_pos (by omega)) ?_; refine Ev.congr (fun k => if_pos (by omega)) ?_; have e2 : a9D x.f0 x.f1 x.f2 = [x.f0] ++ [((x.f2).length : Int) / 256, ((x.f2).length : Int) % 256] ++ x.f2 := by
   unfold a9D; rw [if_pos h2]
   rfl
  rw [e2, ← List.append_assoc, ← List.append_assoc] at hG; rw [show ((x.f2).length : Int) / 256 % 256 = ((x.f2).length : Int) / 256 by omega]; exact hG
 ·have e : (J4 G7 x.f0).f0 = false := by
   obtain h | h | h | h | h : x.f0 = 3 ∨ x.f0 = 4 ∨ x.f0 = 5 ∨ x.f0 = 6 ∨ x.f0 = 7 := by omega
   all_goals rw [h]; rfl
  simp only [e, Bool.false_eq_true, if_false, List.length_append, List.length_cons, List.length_nil, b7U hn.1 (show x.f1 < 18446744073709551616 by omega)]
  have key : (if fits x.f1 (J4 G7 x.f0).f1 = true then (a3u x.f1 (J4 G7 x.f0).f1.toNat true, true) else ([], false)).1 = (a9D x.f0 x.f1 x.f2).tail := by
   have hm2 := hm; unfold a2N at hm2; rw [if_neg (by omega)] at hm2
   split at hm2
   ·cases hm2
   ·unfold a9D; obtain h | h | h | h | h : x.f0 = 3 ∨ x.f0 = 4 ∨ x.f0 = 5 ∨ x.f0 = 6 ∨ x.f0 = 7 := by omega
    ·rw [h]
     simp [J4, G7, d1b]
    ·rw [h]
     simp [J4, G7, d1b]
    ·rw [h]
     simp [J4, G7, c3f hn.2]
    ·rw [h] at hm2 ⊢
     simp at hm2
     simp [J4, G7, d1a, hm2, e2l hn.1 hm2]
    ·rw [h]
     simp [J4, G7, c3f hn.2]
  refine Ev.bind (c0S x.f1 _ true hn.1 (by omega)) ?_; rw [key]; have hl5 := b6n x.f0 x.f1 x.f2; have e3 : a9D x.f0 x.f1 x.f2 = x.f0 :: (a9D x.f0 x.f1 x.f2).tail := rfl; have e4 : (a9D x.f0 x.f1 x.f2).tail.length + 1 = (a9D x.f0 x.f1 x.f2).length := by
   conv => rhs; rw [e3]
   rfl
  refine Ev.congr (fun k => if_pos (by omega)) ?_; rw [e3] at hG
  simpa [List.append_assoc] using hG
theorem c9l (l : List Note) (hl : l.length < 140737488355328) (hx : ∀ x ∈ l, a9C x) : ∀ (d i : Nat) (acc : List Int), l.length - i = d → i ≤ l.length → acc.length + tot (l.drop i) < 140737488355328 →
  Ev (fun k => dump_Put.l0 k acc l (l.length : Int) (i : Int)) (a81 acc (l.drop i)) := by
 intro d
 induction d with
 | zero =>
  intro i acc hd hi ht; refine Ev.step (f := fun _ => some (acc, 0)) (fun k => ?_) ?_
  ·rw [dump_Put.l0, if_neg (by omega)]
  ·rw [List.drop_of_length_le (by omega), a81]; exact Ev.now _
 | succ d ih =>
  intro i acc hd hi ht; have hlt : i < l.length := by omega
  rw [List.drop_eq_getElem_cons hlt] at ht ⊢
  simp only [tot] at ht
  rw [a81]; have hok := hx l[i] (List.getElem_mem hlt); refine Ev.step (fun k => by rw [dump_Put.l0, if_pos (by omega), if_pos (by omega), if_pos (by omega), c5i l i hlt]) ?_; refine Ev.bind (c3g _ _ _ hok.2.1.1 hok.2.1.2) ?_
  cases hm : a2N l[i].f0 l[i].f1 l[i].f2 with
  | false =>
   simp only [Bool.false_eq_true, if_false]
   exact Ev.now _
  | true =>
   simp only [if_true]
   by_cases hb : 65535 < l[i].f2.length
   ·rw [if_pos hb]
    simp only [if_pos (show (l[i].f2.length : Int) > 65535 by omega)]
    exact Ev.now _
   ·rw [if_neg hb]
    simp only [if_neg (show ¬ (l[i].f2.length : Int) > 65535 by omega)]
    have hl5 := b6n l[i].f0 l[i].f1 l[i].f2; have h := ih (i + 1) (acc ++ a9D l[i].f0 l[i].f1 l[i].f2) (by omega) (by omega) (by rw [List.length_append]; omega); refine d1c l[i] hok hm (by omega) acc (by omega) (G := fun k a => dump_Put.l0 k a l (l.length : Int) (wrap64 ((i : Int) + 1))) ?_; rw [w64 (by omega) (by omega)]; exact h
theorem c9m (l : List Note) (hl : l.length < 140737488355328) (hx : ∀ x ∈ l, a9C x) (ht : tot l < 140737488355328) : Ev (fun k => dump_Put.f k l) (a81 [] l) := by
 have := c9l l hl hx l.length 0 [] (by omega) (by omega) (by simpa using ht)
 simpa [dump_Put.f] using this
theorem c9n (x : Note) (hx : a9C x) (hm : a2N x.f0 x.f1 x.f2 = true) (hl : x.f2.length ≤ 65535) : Ev (fun k => a2c.f k x.f0 x.f1 x.f2) (a9D x.f0 x.f1 x.f2) := by
 have hk := b3L hm
 obtain ⟨_, hn, hb⟩ := hx
 unfold a2c.f a9D
 rw [show x.f0 % 256 = x.f0 by omega, w64 (x := (x.f2.length : Int) / 256) (by omega) (by omega), show ((x.f2).length : Int) / 256 % 256 = ((x.f2).length : Int) / 256 by omega]
 simp only [Option.bind_some]
 by_cases h2 : x.f0 ≤ 2
 ·simp only [if_pos h2, Option.bind_some, List.length_append, List.length_cons, List.length_nil]
  refine Ev.congr (fun k => if_pos (by omega)) ?_; refine Ev.congr (fun k => if_pos (by omega)) ?_; exact Ev.now _
 ·simp only [if_neg h2]
  by_cases h6 : x.f0 = 6
  ·simp only [h6, if_true]
   have h7 : x.f1 % 256 = x.f1 := by
    unfold a2N at hm; rw [h6] at hm
    simp at hm
    omega
   simp only [List.length_cons, List.length_nil, h7]
   exact Ev.now _
  ·simp only [if_neg h6, b7U hn.1 (show x.f1 < 18446744073709551616 by omega)]
   by_cases h5 : x.f0 = 5
   ·simp only [h5, if_true, true_or]
    refine Ev.bind (a7S x.f1 4 true hn.1 (by omega) (by omega)) ?_
    simp only [List.length_cons, List.length_nil, V7]
    exact Ev.now _
   ·simp only [if_neg h5]
    by_cases h7 : x.f0 = 7
    ·simp only [h7, if_true, or_true]
     refine Ev.bind (a7S x.f1 4 true hn.1 (by omega) (by omega)) ?_
     simp only [List.length_cons, List.length_nil, V7]
     exact Ev.now _
    ·simp only [if_neg h7, h5, h7, or_self, if_false]
     exact Ev.now _
theorem c0Y (l : List Note) (hl : l.length < 140737488355328) (hx : ∀ x ∈ l, a9C x) : ∀ (d i : Nat) (acc : List Int), l.length - i = d → i ≤ l.length → acc.length + tot (l.drop i) < 140737488355328 →
  Ev (fun k => U0.l0 k l acc (i : Int)) (a81 acc (l.drop i)) := by
 intro d
 induction d with
 | zero =>
  intro i acc hd hi ht; refine Ev.step (f := fun _ => some (acc, 0)) (fun k => ?_) ?_
  ·rw [U0.l0, if_neg (by omega)]
  ·rw [List.drop_of_length_le (by omega), a81]; exact Ev.now _
 | succ d ih =>
  intro i acc hd hi ht; have hlt : i < l.length := by omega
  rw [List.drop_eq_getElem_cons hlt] at ht ⊢
  simp only [tot] at ht
  rw [a81]; have hok := hx l[i] (List.getElem_mem hlt); refine Ev.step (fun k => by rw [U0.l0, if_pos (by omega), if_pos (by omega), c5i l i hlt]) ?_; refine Ev.bind (c0X _ _ _) ?_
  cases hm : a2N l[i].f0 l[i].f1 l[i].f2 with
  | false =>
   simp only [Bool.false_eq_true, if_false]
   exact Ev.now _
  | true =>
   simp only [if_true]
   by_cases hb : 65535 < l[i].f2.length
   ·rw [if_pos hb]
    simp only [if_pos (show (l[i].f2.length : Int) > 65535 by omega)]
    exact Ev.now _
   ·rw [if_neg hb]
    simp only [if_neg (show ¬ (l[i].f2.length : Int) > 65535 by omega)]
    have hl5 := b6n l[i].f0 l[i].f1 l[i].f2; refine Ev.bind (c9n l[i] hok hm (by omega)) ?_; refine Ev.congr (fun k => if_pos (by omega)) ?_; rw [w64 (by omega) (by omega)]; exact ih (i + 1) (acc ++ a9D l[i].f0 l[i].f1 l[i].f2) (by omega) (by omega) (by rw [List.length_append]; omega)
theorem c0Z (l : List Note) (hl : l.length < 140737488355328) (hx : ∀ x ∈ l, a9C x) (ht : tot l < 140737488355328) : Ev (fun k => U0.f k l) (a81 [] l) := by
 have := c0Y l hl hx l.length 0 [] (by omega) (by omega) (by simpa using ht)
 simpa [U0.f] using this
theorem c9o (p : Int) : Bytes (a6o p true false) := by
 unfold a6o
 simp only [Bool.false_eq_true, false_and, if_false, if_true]
 exact (Bytes.cons (by omega) (Bytes.cons (by omega) Bytes.nil)).append (Bytes.cons (by omega) (Bytes.cons (by omega) Bytes.nil))
theorem b1l (p : Int) : (a6o p true false).length = 4 := by
 unfold a6o
 simp
theorem c02 (big : Bool) (l : List S51) (h : ∀ r ∈ l, (r.f3.length : Int) ≤ 131072) (y : List Int) : b6m big y l = (y ++ (l.map (d09 big)).flatten, 0) := by
 induction l generalizing y with
 | nil => simp [b6m]
 | cons r l ih =>
  unfold b6m; rw [if_neg (by have := h r (List.mem_cons_self ..); omega), ih (fun x hx => h x (List.mem_cons_of_mem _ hx))]
  simp
abbrev Item := S42
def a3M (x : Item) : Bool := (decide (x.f0 = 1 ∨ x.f0 = 2) && a4Y x.f1) && decide (x.f2.length ≤ 65531)
theorem b0f (x : Item) : a1C.f x.f0 x.f1 x.f2 = some (a3M x) := by
 have hd : (decide ((x.f2.length : Int) ≤ 65531)) = decide (x.f2.length ≤ 65531) := by
  rw [Bool.eq_iff_iff, decide_eq_true_iff, decide_eq_true_iff]
  omega
 unfold a1C.f a3M
 simp only [b6j, Option.bind_some]
 by_cases h1 : x.f0 = 1
 ·cases hm : a4Y x.f1 <;> simp [h1, hd]
 ·by_cases h2 : x.f0 = 2
  ·cases hm : a4Y x.f1 <;> simp [h2, hd]
  ·simp [h1, h2]
theorem a5b {x : Item} (h : a3M x = true) : (x.f0 = 1 ∨ x.f0 = 2) ∧ a4Y x.f1 = true ∧ x.f2.length ≤ 65531 := by
 unfold a3M at h
 simp only [Bool.and_eq_true, decide_eq_true_eq] at h
 exact ⟨h.1.1, h.1.2, h.2⟩
theorem b1m : ∀ (l : List Item) (j : Nat), (∀ x ∈ l, a3M x = true) → H7.go l j = some (-1)
 | [], _, _ => rfl
 | x :: m, j, h => by
  rw [H7.go, b0f, h x (by simp), Option.bind_some, if_pos rfl]; exact b1m m (j + 1) fun y hy => h y (by simp [hy])
theorem b7Y : ∀ (l : List Item) (j : Nat), (∃ x ∈ l, a3M x = false) → ∃ i : Int, 0 ≤ i ∧ H7.go l j = some i
 | [], _, h => by obtain ⟨x, hx, _⟩ := h; cases hx
 | x :: m, j, h => by
  cases hx : a3M x with
  | true =>
   have h2 : ∃ y ∈ m, a3M y = false := by
    obtain ⟨y, hy, hb⟩ := h
    rcases List.mem_cons.1 hy with rfl | hy
    ·rw [hx] at hb; cases hb
    ·exact ⟨y, hy, hb⟩
   obtain ⟨i, h0, hi⟩ := b7Y m (j + 1) h2; refine ⟨i, h0, ?_⟩; rw [H7.go, b0f, hx, Option.bind_some, if_pos rfl]; exact hi
  | false =>
   refine ⟨(j : Int), by omega, ?_⟩; rw [H7.go, b0f, hx, Option.bind_some, if_neg (by decide)]
def a1u (x : Item) : List Int := a6o x.f1 true false ++ x.f2
theorem a4G (x : Item) : (a1u x).length = 4 + x.f2.length := by
 unfold a1u
 rw [List.length_append, b1l]
theorem a6p {x : Item} (hb : Bytes x.f2) : Bytes (a1u x) := (c9o x.f1).append hb
theorem b6o (x : Item) (h : a3M x = true) : a1q.f x.f0 x.f1 x.f2 = some (a1u x) := by
 obtain ⟨_, hm, hl⟩ := a5b h
 unfold a1q.f a1u
 rw [c82, hm, Option.bind_some]
 simp only [if_true]
 rw [if_pos (by rw [b1l]; omega)]
theorem a6n (l : List Item) (i : Nat) (h : i < l.length) : y7 l (i : Int) = l[i] := by
 unfold y7
 rw [Int.toNat_natCast, List.getD_eq_getElem?_getD, List.getElem?_eq_getElem h]
 rfl
def recv (i : Nat) (x : Item) : S51 := ⟨(i : Int), 0, ((a1u x).length + 1 : Nat), (x.f0 - 1) :: a1u x⟩
def a5c : Nat → List Item → List S51
 | _, [] => []
 | i, x :: t => recv i x :: a5c (i + 1) t
theorem a8z : ∀ (l : List Item) (i : Nat), (a5c i l).length = l.length
 | [], _ => rfl
 | x :: t, i => by rw [a5c, List.length_cons, a8z t, List.length_cons]
theorem b7Z : ∀ (l : List Item) (i : Nat) (r : S51), r ∈ a5c i l → ∃ j x, x ∈ l ∧ r = recv j x ∧ j < i + l.length
 | [], i, r, h => by cases h
 | x :: t, i, r, h => by
  rw [a5c] at h
  rcases List.mem_cons.1 h with rfl | h
  ·exact ⟨i, x, by simp, rfl, by simp⟩
  ·obtain ⟨j, y, hy, e, hj⟩ := b7Z t (i + 1) r h; exact ⟨j, y, by simp [hy], e, by rw [List.length_cons]; omega⟩
theorem b1n : ∀ (l : List Item) (i : Nat), (∀ x ∈ l, a3M x = true) → b8M (a5c i l) ≤ l.length * 65552
 | [], _, _ => Nat.le_refl _
 | x :: t, i, h => by
  have h1 := (a5b (h x (by simp))).2.2; have h2 := a4G x; have h3 := b1n t (i + 1) fun y hy => h y (by simp [hy])
  have h4 : (recv i x).f3.length = (a1u x).length + 1 := rfl; rw [a5c, b8M, List.length_cons]
  omega
theorem d6Q (l : List Item) (hn : l.length ≤ 100000) (hm : ∀ x ∈ l, a3M x = true) : ∀ (d i : Nat) (acc : List S51), l.length - i = d → i ≤ l.length → acc.length = i → ∀ {r : List Int × Int}, Ev (fun k => pcap_Put.f k false false 65535 204 (acc ++ a5c i (l.drop i))) r →
  Ev (fun k => F8.l0 k acc l (l.length : Int) (i : Int)) r := by
 intro d
 induction d with
 | zero =>
  intro i acc hd hi ha r hr; obtain rfl : i = l.length := by omega
  rw [List.drop_length, a5c, List.append_nil] at hr; refine Ev.step (fun k => by rw [F8.l0, if_neg (by omega)]) ?_; obtain ⟨r1, r2⟩ := r; exact Ev.bind hr (Ev.now _)
 | succ d ih =>
  intro i acc hd hi ha r hr; have hlt : i < l.length := by omega
  have hmx := hm l[i] (List.getElem_mem hlt); have h1 := a5b hmx; have h2 := a4G l[i]; have e2 : wrap64 ((i : Int) + 1) = ((i + 1 : Nat) : Int) := w64 (by omega) (by omega); have e3 : wrap64 (l[i].f0 - 1) % 256 = l[i].f0 - 1 := by rw [w64 (by omega) (by omega)]; omega
  have e4 : (⟨(i : Int) % 4294967296, 0, ((([l[i].f0 - 1] ++ a1u l[i] : List Int).length : Int)) % 4294967296, [l[i].f0 - 1] ++ a1u l[i]⟩ : S51) = recv i l[i] := by
   unfold recv; rw [List.singleton_append, List.length_cons, Int.emod_eq_of_lt (by omega) (by omega), Int.emod_eq_of_lt (by omega) (by omega)]
  rw [List.drop_eq_getElem_cons hlt, a5c] at hr; have next := ih (i + 1) (acc ++ [recv i l[i]]) (by omega) (by omega) (by rw [List.length_append, List.length_singleton]; omega) (r := r) (by rw [List.append_assoc, List.singleton_append]; exact hr); have g4 : ([l[i].f0 - 1] : List Int).length + (a1u l[i]).length < 140737488355328 := by rw [List.length_singleton]; omega
  refine Ev.step (fun k => ?_) next; rw [F8.l0, if_pos (by omega), if_pos (by omega), if_pos (by omega), a6n l i hlt, e3, Option.bind_some, b6o _ hmx, Option.bind_some, if_pos g4, Option.bind_some, if_pos (by omega), e4, e2]
def b6p (l : List Item) : List Int := a6O false false 65535 204 ++ ((a5c 0 l).map (d09 false)).flatten
theorem b6q (l : List Item) (hn : l.length ≤ 100000) (h : ∀ x ∈ l, a3M x = true ∧ Bytes x.f2) : ∀ r ∈ a5c 0 l, Fine r ∧ Bytes r.f3 := by
 intro r hr
 obtain ⟨j, x, hx, rfl, hj⟩ := b7Z l 0 r hr
 obtain ⟨hm, hb⟩ := h x hx
 have h1 := a5b hm
 have h2 := a4G x
 refine ⟨⟨⟨⟨by show (0 : Int) ≤ (j : Int); omega, by show (j : Int) < _; omega⟩, ⟨by show (0 : Int) ≤ 0; omega, by show (0 : Int) < _; omega⟩, ⟨by show (0 : Int) ≤ (((a1u x).length + 1 : Nat) : Int); omega, by show (((a1u x).length + 1 : Nat) : Int) < _; omega⟩⟩, ?_⟩, ?_⟩
 ·show (((a1u x).length + 1 : Nat) : Int) ≤ _
  omega
 ·exact Bytes.cons (by omega) (a6p hb)
theorem c04 (l : List Item) (hn : l.length ≤ 100000) (h : ∀ x ∈ l, a3M x = true ∧ Bytes x.f2) : Ev (fun k => F8.f k 0 0 l) (b6p l, 0) := by
 have hf := b6q l hn h
 have hc := b1n l 0 fun x hx => (h x hx).1
 have hl := a8z l 0
 have hp := c0U false false 65535 204 (a5c 0 l) (by omega) (fun r hr => (hf r hr).1.1) ⟨by omega, by omega⟩ ⟨by omega, by omega⟩ (by omega)
 rw [c02 false (a5c 0 l) (fun r hr => (hf r hr).1.2)] at hp
 unfold F8.f
 exact d6Q l hn (fun x hx => (h x hx).1) l.length 0 [] rfl (Nat.zero_le _) rfl hp
def a3e (l : List Int) : List (List Int) := (List.range (Chunk.count l.length)).map fun j => (l.drop (j * 65535)).take 65535
theorem c3h (l : List Int) : ∀ p ∈ a3e l, p.length ≤ 65535 := by
 intro p hp
 unfold a3e at hp
 obtain ⟨j, _, rfl⟩ := List.mem_map.1 hp
 rw [List.length_take]
 omega
theorem b8O {l : List Int} (hb : Bytes l) : ∀ p ∈ a3e l, Bytes p := by
 intro p hp
 unfold a3e at hp
 obtain ⟨j, _, rfl⟩ := List.mem_map.1 hp
 exact (hb.drop _).take _
def a8A (kind : Int) (p : List Int) : Note := ⟨kind, 0, p⟩
theorem d1d (kind : Int) (l : List Int) : (List.range (Chunk.count l.length)).map (capture_notes_write.note kind l) = (a3e l).map (a8A kind) := by
 unfold a3e
 rw [List.map_map]
 rfl
def a1G (m : Int) (wide : Bool) (x : Item) : List Int := 126 :: a4q (if x.f0 = 1 then m else 0) wide (a1u x)
def a3U (m : Int) (wide : Bool) : List Item → List Note
 | [] => []
 | x :: t => (a3e (a1G m wide x)).map (a8A (if x.f0 = 1 then 2 else 1)) ++ a3U m wide t
theorem a8B (m : Int) (wide : Bool) (x : Item) (h : a3M x = true) : (a1G m wide x).length ≤ 140010 := by
 have h1 := a5b h
 have h2 := a4G x
 have h3 := b1k (if x.f0 = 1 then m else 0) wide (a1u x) (by omega)
 unfold a1G
 rw [List.length_cons]
 omega
theorem b6r (m : Int) (wide : Bool) (x : Item) (hb : Bytes x.f2) : Bytes (a1G m wide x) := by
 unfold a1G a4q
 exact Bytes.cons ⟨by decide, by decide⟩ ((b8H (a9B (a6p hb) wide) _).append (Bytes.cons ⟨by decide, by decide⟩ Bytes.nil))
theorem e0h (m : Int) (wide : Bool) (h0 : 0 ≤ m) (h1 : m < 4294967296) : ∀ (l : List Item) (out : List Note), (∀ x ∈ l, a3M x = true ∧ Bytes x.f2) → out.length + l.length * 3 ≤ 1000 →
  Ev (fun k => capture_notes_write.go k m wide l out) (out ++ a3U m wide l)
 | [], out, _, _ => by rw [a3U, List.append_nil]; exact Ev.now _
 | x :: t, out, h, hn => by
  obtain ⟨hm, hb⟩ := h x (by simp); have h2 := a5b hm; have h3 := a4G x; have h4 := a8B m wide x hm; have hc : Chunk.count (a1G m wide x).length ≤ 3 := by unfold Chunk.count; omega
  rw [List.length_cons] at hn; have hput := c27 (if x.f0 = 1 then m else 0) wide (by split <;> omega) (by split <;> omega) (a1u x) (a6p hb) (by omega); rw [c0R, if_neg (show ¬ ((a1u x).length : Int) < 2 by omega), if_neg (show ¬ ((a1u x).length : Int) > 65535 by omega)] at hput; refine Ev.congr (f := fun k => (a4K.f k (a1u x) (if x.f0 = 1 then m else 0) wide).bind fun t1 => if t1.1.length ≤ 140737488355328 ∧ out.length + Chunk.count t1.1.length < 1099511627776 then capture_notes_write.go k m wide t (out ++ (List.range (Chunk.count t1.1.length)).map (capture_notes_write.note (if x.f0 = 1 then 2 else 1) t1.1)) else none) (fun k => ?_) ?_
  ·rw [capture_notes_write.go, b6o x hm, Option.bind_some]
  ·refine Ev.bind hput ?_; have hif : (a1G m wide x).length ≤ 140737488355328 ∧ out.length + Chunk.count (a1G m wide x).length < 1099511627776 := ⟨by omega, by omega⟩; refine Ev.congr (fun k => if_pos hif) ?_; have e := d1d (if x.f0 = 1 then 2 else 1) (a1G m wide x); have next := e0h m wide h0 h1 t (out ++ (a3e (a1G m wide x)).map (a8A (if x.f0 = 1 then 2 else 1))) (fun y hy => h y (by simp [hy])) (by rw [List.length_append, List.length_map]; unfold a3e; rw [List.length_map, List.length_range]; omega); rw [a3U, ← List.append_assoc]; rw [← e] at next ⊢; exact next
theorem b3N (m : Int) (wide : Bool) : ∀ (l : List Item), (∀ x ∈ l, a3M x = true ∧ Bytes x.f2) → (∀ y ∈ a3U m wide l, a9C y) ∧ c0V (a3U m wide l) = true ∧ tot (a3U m wide l) ≤ l.length * 200000 ∧ (a3U m wide l).length ≤ l.length * 3
 | [], _ => ⟨(fun y h => by cases (show y ∈ ([] : List Note) from h)), rfl, Nat.le_refl _, Nat.le_refl _⟩
 | x :: t, h => by
  obtain ⟨hm, hb⟩ := h x (by simp); have h2 := a5b hm; have h4 := a8B m wide x hm; have hc : Chunk.count (a1G m wide x).length ≤ 3 := by unfold Chunk.count; omega
  obtain ⟨i1, i2, i3, i4⟩ := b3N m wide t fun y hy => h y (by simp [hy])
  have hk : (if x.f0 = 1 then (2 : Int) else 1) = 1 ∨ (if x.f0 = 1 then (2 : Int) else 1) = 2 := by split <;> simp
  have hpl : (a3e (a1G m wide x)).length ≤ 3 := by unfold a3e; rw [List.length_map, List.length_range]; exact hc
  have hps := c3h (a1G m wide x); have hpb := b8O (b6r m wide x hb); unfold a3U; generalize a3e (a1G m wide x) = ps at hpl hps hpb ⊢; generalize (if x.f0 = 1 then (2 : Int) else 1) = kd at hk ⊢; have hone : ∀ p ∈ ps, a9C (a8A kd p) ∧ (a2N kd 0 p && decide (p.length ≤ 65535)) = true := by
   intro p hp; refine ⟨⟨⟨by show _ ≤ kd; omega, by show kd ≤ _; omega⟩, ⟨by show (0 : Int) ≤ 0; omega, by show (0 : Int) < _; omega⟩, hpb p hp⟩, ?_⟩; rw [Bool.and_eq_true, decide_eq_true_iff]; refine ⟨?_, hps p hp⟩; unfold a2N; rw [if_pos hk]
   rfl
  have htot : tot (ps.map (a8A kd)) ≤ ps.length * 65540 := by
   clear hpl hpb hone
   induction ps with
   | nil => exact Nat.le_refl _
   | cons p ps ih =>
    have h1 := hps p (by simp); have h2 := ih fun q hq => hps q (by simp [hq])
    have h3 : (a8A kd p).f2.length = p.length := rfl; rw [List.map_cons, tot, List.length_cons]
    omega
  refine ⟨?_, ?_, ?_, ?_⟩
  ·intro y hy
   rcases List.mem_append.1 hy with hy | hy
   ·obtain ⟨p, hp, rfl⟩ := List.mem_map.1 hy; exact (hone p hp).1
   ·exact i1 y hy
  ·unfold c0V at i2 ⊢; rw [List.all_append, i2, Bool.and_true, List.all_map, List.all_eq_true]; intro p hp; exact (hone p hp).2
  ·rw [c3e, List.length_cons]
   omega
  ·rw [List.length_append, List.length_map, List.length_cons]
   omega
theorem c9p (m : Int) (wide : Bool) (h0 : 0 ≤ m) (h1 : m < 4294967296) (l : List Item) (hn : l.length ≤ 60) (h : ∀ x ∈ l, a3M x = true ∧ Bytes x.f2) : Ev (fun k => capture_notes_write.f k l m wide) (b3M (a3U m wide l), 0) := by
 obtain ⟨i1, i2, i3, i4⟩ := b3N m wide l h
 have hg := e0h m wide h0 h1 l [] h (by rw [List.length_nil]; omega)
 rw [List.nil_append] at hg
 have hp := c9m (a3U m wide l) (by omega) i1 (by omega)
 rw [c0W _ _ i2, List.nil_append] at hp
 unfold capture_notes_write.f
 exact Ev.bind hg hp
theorem c9q (l : List Item) : ∀ (d i : Nat) (n : Int), l.length - i = d → i ≤ l.length → 0 ≤ n → n ≤ 100000 * i → ∃ b : Bool, Ev (fun k => P8.l0 k l n (i : Int)) b ∧ (b = true → l.length ≤ 60) := by
 intro d
 induction d with
 | zero =>
  intro i n hd hi h0 hn
  by_cases a : (l.length : Int) ≤ 60
  ·refine ⟨decide (n ≤ 70000), Ev.step (f := fun _ => some (decide (n ≤ 70000))) (fun k => ?_) (Ev.now _), fun h => by omega⟩; rw [P8.l0, if_neg (by omega), if_pos a]
  ·refine ⟨false, Ev.step (f := fun _ => some false) (fun k => ?_) (Ev.now _), fun h => by cases h⟩; rw [P8.l0, if_neg (by omega), if_neg a]
 | succ d ih =>
  intro i n hd hi h0 hn; have hlt : i < l.length := by omega
  by_cases c : i < 100
  ·have hm : 0 ≤ mn ((l[i].f2.length : Int)) 100000 ∧ mn ((l[i].f2.length : Int)) 100000 ≤ 100000 := by
    unfold mn
    split <;> omega
   obtain ⟨b, hb, hc⟩ := ih (i + 1) (n + mn ((l[i].f2.length : Int)) 100000) (by omega) (by omega) (by omega) (by omega); refine ⟨b, Ev.step (fun k => ?_) hb, hc⟩; rw [P8.l0, if_pos (by omega), if_pos (by omega), if_pos (by omega), a6n l i hlt, w64 (by omega) (by omega), w64 (by omega) (by omega)]
   rfl
  ·by_cases a : (l.length : Int) ≤ 60
   ·omega
   ·refine ⟨false, Ev.step (f := fun _ => some false) (fun k => ?_) (Ev.now _), fun h => by cases h⟩; rw [P8.l0, if_pos (by omega), if_neg (by omega), if_neg a]
theorem c9r (l : List Item) : ∃ b : Bool, Ev (fun k => P8.f k l) b ∧ (b = true → l.length ≤ 60) := c9q l l.length 0 0 (by omega) (by omega) (by omega) (by omega)
theorem b70 (form : Int) (hf : form = 1 ∨ form = 2) (l : List Item) (h : ∃ x ∈ l, a3M x = false) (k : Nat) (a0 a1 a2 a3 : Int) (s0 s1 : ByteArray) (dir m : Int) (wide : Bool) :
  capture_Write.f k l form a0 a1 a2 a3 s0 s1 dir m wide = some ([], 1) := by
 obtain ⟨i, h0, hi⟩ := b7Y l 0 h
 unfold capture_Write.f
 rcases hf with rfl | rfl
 ·rw [if_pos rfl, hi, Option.bind_some, if_pos h0]
 ·rw [if_neg (by decide), if_pos rfl, hi, Option.bind_some, if_pos h0]
theorem d6R {x : Int} (h : (Lit.int .u32 x).wf = true) : 0 ≤ x ∧ x < 4294967296 := wf_u32 h
theorem d6S {l : List Int} (h : ∀ x ∈ l, (Lit.int .u8 x).wf = true) : Bytes l := d0O h
theorem d6T (n : Nat) : umpirelaw11_awake.f (n + 1000) = some true := by kernel_rfl
theorem b7T : Ev (fun k => umpirelaw11_awake.f k) true := ⟨1000, fun k hk => by
 obtain ⟨n, rfl⟩ : ∃ n, k = n + 1000 := ⟨k - 1000, by omega⟩
 exact d6T n⟩
theorem c05 (p : Int) : a0k.f p = some (a4Y p) := by
 unfold a0k.f a4Y
 by_cases a : p > 0
 ·rw [if_pos a]
  by_cases b : p < 65536
  ·rw [if_pos b, Int.tmod_eq_emod_of_nonneg (by omega), Int.tdiv_eq_ediv_of_nonneg (by omega), w64 (by omega) (by omega), Int.tmod_eq_emod_of_nonneg (by omega)]
   by_cases c : p % 2 = 1
   ·rw [if_pos c]
    by_cases d : p / 256 % 2 = 0
    ·rw [if_pos d]
     congr 1
     rw [Bool.eq_iff_iff, bne_iff_ne, decide_eq_true_iff]; exact ⟨fun h => ⟨a, by omega, c, d, h⟩, fun h => h.2.2.2.2⟩
    ·rw [if_neg d]
     simp [d]
   ·rw [if_neg c]
    simp [c]
  ·rw [if_neg b, show decide (1 ≤ p ∧ p ≤ 65535 ∧ p % 2 = 1 ∧ p / 256 % 2 = 0 ∧ p ≠ 255) = false by apply decide_eq_false; omega]
 ·rw [if_neg a, show decide (1 ≤ p ∧ p ≤ 65535 ∧ p % 2 = 1 ∧ p / 256 % 2 = 0 ∧ p ≠ 255) = false by apply decide_eq_false; omega]
theorem c3i {p : Int} (h : a4Y p = true) : 1 ≤ p ∧ p ≤ 65535 ∧ p % 2 = 1 ∧ p / 256 % 2 = 0 ∧ p ≠ 255 := of_decide_eq_true h
theorem c3j (p : Int) (full short : Bool) (h : a4Y p = true) : a2d.f p full short = some (a6o p full short) := by
 have hr := c3i h
 unfold a2d.f a6o
 rw [Int.tmod_eq_emod_of_nonneg (by omega), Int.tdiv_eq_ediv_of_nonneg (by omega), w64 (by omega) (by omega), show p % 256 % 256 = p % 256 by omega]
 cases full <;> cases short <;> simp
 all_goals (split <;> simp)
theorem a6L (x : Item) : a0l.f x.f0 x.f1 x.f2 = some (a3M x) := by
 have hd : (decide ((x.f2.length : Int) ≤ 65531)) = decide (x.f2.length ≤ 65531) := by
  rw [Bool.eq_iff_iff, decide_eq_true_iff, decide_eq_true_iff]
  omega
 unfold a0l.f a3M
 simp only [c05, Option.bind_some]
 by_cases h1 : x.f0 = 1
 ·cases hm : a4Y x.f1 <;> simp [h1, hd]
 ·by_cases h2 : x.f0 = 2
  ·cases hm : a4Y x.f1 <;> simp [h2, hd]
  ·simp [h1, h2]
theorem b4l (x : Item) (h : a3M x = true) : a0b.f x.f0 x.f1 x.f2 = some (a1u x) := by
 obtain ⟨_, hm, hl⟩ := a5b h
 unfold a0b.f a1u
 rw [c3j x.f1 true false hm, Option.bind_some, if_pos (by rw [b1l]; omega)]
theorem c06 {b : List Int} (h : 0 < b.length) : a3e b = b.take 65535 :: a3e (b.drop 65535) := by
 unfold a3e Chunk.count
 have e : (b.length + 65534) / 65535 = ((b.drop 65535).length + 65534) / 65535 + 1 := by rw [List.length_drop]; omega
 rw [e, List.range_succ_eq_map, List.map_cons, List.map_map]
 refine congr (congrArg _ (by simp)) ?_
 refine List.map_congr_left fun j _ => ?_
 show (b.drop ((j + 1) * 65535)).take 65535 = ((b.drop 65535).drop (j * 65535)).take 65535
 rw [List.drop_drop, show (j + 1) * 65535 = 65535 + j * 65535 by omega]
theorem b6s : a3e ([] : List Int) = [] := rfl
theorem d1e (c0 c1 c2 c3 : Int) (s0 s1 : ByteArray) (dir m : Int) (wide : Bool) (l : List Item) (form : Int) (rs : List S51) (i : Nat) (hi : i < l.length) (hn : l.length ≤ 60) (hm : a3M l[i] = true) {r : List Int × Int} : ∀ (d : Nat) (b : List Int) (ns : List Note), b.length ≤ d → ns.length + b.length ≤ 3000000000000 →
  Ev (fun k => umpireref11_Write.l0 k l form rs (ns ++ (a3e b).map (a8A (if l[i].f0 = 1 then 2 else 1))) ((i + 1 : Nat) : Int) c0 c1 c2 c3 s0 s1 dir m wide) r →
  Ev (fun k => umpireref11_Write.l1 k l form rs ns (i : Int) b c0 c1 c2 c3 s0 s1 dir m wide) r := by
 have h1 := a5b hm
 have e2 : wrap64 ((i : Int) + 1) = ((i + 1 : Nat) : Int) := w64 (by omega) (by omega)
 have ek : wrap64 (3 - l[i].f0) = (if l[i].f0 = 1 then 2 else 1) := by
  rcases h1.1 with e | e
  ·rw [e, if_pos rfl, w64 (by omega) (by omega)]; rfl
  ·rw [e, if_neg (by decide), w64 (by omega) (by omega)]; rfl
 intro d
 induction d with
 | zero =>
  intro b ns hb hl hr; obtain rfl : b = [] := List.eq_nil_of_length_eq_zero (by omega); rw [b6s, List.map_nil, List.append_nil] at hr; refine Ev.step (fun k => ?_) hr; rw [umpireref11_Write.l1, if_neg (by simp), e2]
 | succ d ih =>
  intro b ns hb hl hr
  by_cases hp : 0 < b.length
  ·rw [c06 hp, List.map_cons, ← List.singleton_append, ← List.append_assoc] at hr; have hdl : (b.drop 65535).length = b.length - 65535 := List.length_drop ..; have next := ih (b.drop 65535) (ns ++ [a8A (if l[i].f0 = 1 then 2 else 1) (b.take 65535)]) (by omega) (by rw [List.length_append, List.length_singleton]; omega) hr; refine Ev.step (fun k => ?_) next; rw [umpireref11_Write.l1, if_pos (by omega), a6n l i hi, ek]
   by_cases hg : b.length ≤ 65535
   ·have t1 : b.take 65535 = b := List.take_of_length_le hg; have t2 : b.drop 65535 = [] := List.drop_of_length_le hg; rw [if_neg (by omega), if_pos (by omega), if_pos (by omega), if_pos (by omega), if_pos (by omega), if_pos (by omega), Int.toNat_natCast, List.take_length, List.drop_length, t1, t2]
    rfl
   ·rw [if_pos (by omega), if_pos (by omega), if_pos (by omega), if_pos (by omega), if_pos (by omega)]
    rfl
  ·obtain rfl : b = [] := List.eq_nil_of_length_eq_zero (by omega); rw [b6s, List.map_nil, List.append_nil] at hr; refine Ev.step (fun k => ?_) hr; rw [umpireref11_Write.l1, if_neg (by simp), e2]
theorem d1f (c0 c1 c2 c3 : Int) (s0 s1 : ByteArray) (dir m : Int) (wide : Bool) (l : List Item) (hn : l.length ≤ 60) {r : List Int × Int} : ∀ (d i : Nat) (acc : List S51), l.length - i = d → i ≤ l.length → acc.length = i →
  ((∀ x ∈ l.drop i, a3M x = true) → Ev (fun k => umpireref09_Put.f k false false 65535 204 (acc ++ a5c i (l.drop i))) r) → ((∃ x ∈ l.drop i, a3M x = false) → r = ([], 1)) →
  Ev (fun k => umpireref11_Write.l0 k l 1 acc [] (i : Int) c0 c1 c2 c3 s0 s1 dir m wide) r := by
 intro d
 induction d with
 | zero =>
  intro i acc hd hi ha hg _; obtain rfl : i = l.length := by omega
  have hr := hg (by rw [List.drop_length]; intro x hx; cases hx); rw [List.drop_length, a5c, List.append_nil] at hr; refine Ev.step (fun k => by rw [umpireref11_Write.l0, if_neg (by omega), if_pos rfl]) ?_; obtain ⟨r1, r2⟩ := r; exact Ev.bind hr (Ev.now _)
 | succ d ih =>
  intro i acc hd hi ha hg hbad; have hlt : i < l.length := by omega
  have ed := List.drop_eq_getElem_cons hlt
  cases hmx : a3M l[i] with
  | false =>
   obtain rfl := hbad ⟨l[i], by rw [ed]; exact List.mem_cons_self, hmx⟩; refine Ev.step (f := fun _ => some (([] : List Int), (1 : Int))) (fun k => ?_) (Ev.now _); rw [umpireref11_Write.l0, if_pos (by omega), if_pos (by omega), a6n l i hlt, a6L, hmx, Option.bind_some, if_neg (by decide)]
  | true =>
   have h1 := a5b hmx; have h2 := a4G l[i]; have e2 : wrap64 ((i : Int) + 1) = ((i + 1 : Nat) : Int) := w64 (by omega) (by omega); have e3 : wrap64 (l[i].f0 - 1) % 256 = l[i].f0 - 1 := by rw [w64 (by omega) (by omega)]; omega
   have e4 : (⟨(i : Int) % 4294967296, 0, ((([l[i].f0 - 1] ++ a1u l[i] : List Int).length : Int)) % 4294967296, [l[i].f0 - 1] ++ a1u l[i]⟩ : S51) = recv i l[i] := by
    unfold recv; rw [List.singleton_append, List.length_cons, Int.emod_eq_of_lt (by omega) (by omega), Int.emod_eq_of_lt (by omega) (by omega)]
   have next := ih (i + 1) (acc ++ [recv i l[i]]) (by omega) (by omega) (by rw [List.length_append, List.length_singleton]; omega)
    (fun h => by
     have := hg (by rw [ed]; intro x hx; exact (List.mem_cons.1 hx).elim (fun e => by rw [e]; exact hmx) (h x)); rw [ed, a5c] at this; rw [List.append_assoc, List.singleton_append]; exact this)
    (fun ⟨x, hx, h⟩ => hbad ⟨x, by rw [ed]; exact List.mem_cons_of_mem _ hx, h⟩)
   have g4 : ([l[i].f0 - 1] : List Int).length + (a1u l[i]).length < 140737488355328 := by rw [List.length_singleton]; omega
   refine Ev.step (fun k => ?_) next; rw [umpireref11_Write.l0, if_pos (by omega), if_pos (by omega), a6n l i hlt, a6L, hmx, Option.bind_some, if_pos rfl, if_pos rfl, e3, Option.bind_some, b4l _ hmx, Option.bind_some, if_pos g4, Option.bind_some, if_pos (by omega), e4, e2]
theorem d1g (c0 c1 c2 c3 : Int) (s0 s1 : ByteArray) (dir m : Int) (wide : Bool) (h0 : 0 ≤ m) (h1 : m < 4294967296) (l : List Item) (hn : l.length ≤ 60) (hb : ∀ x ∈ l, Bytes x.f2) {r : List Int × Int} : ∀ (d i : Nat) (ns : List Note), l.length - i = d → i ≤ l.length → ns.length ≤ i * 3 →
  ((∀ x ∈ l.drop i, a3M x = true) → Ev (fun k => U0.f k (ns ++ a3U m wide (l.drop i))) r) → ((∃ x ∈ l.drop i, a3M x = false) → r = ([], 1)) →
  Ev (fun k => umpireref11_Write.l0 k l 2 [] ns (i : Int) c0 c1 c2 c3 s0 s1 dir m wide) r := by
 intro d
 induction d with
 | zero =>
  intro i ns hd hi ha hg _; obtain rfl : i = l.length := by omega
  have hr := hg (by rw [List.drop_length]; intro x hx; cases hx); rw [List.drop_length, a3U, List.append_nil] at hr; refine Ev.step (fun k => by rw [umpireref11_Write.l0, if_neg (by omega), if_neg (by decide)]) ?_; obtain ⟨r1, r2⟩ := r; exact Ev.bind hr (Ev.now _)
 | succ d ih =>
  intro i ns hd hi ha hg hbad; have hlt : i < l.length := by omega
  have ed := List.drop_eq_getElem_cons hlt
  cases hmx : a3M l[i] with
  | false =>
   obtain rfl := hbad ⟨l[i], by rw [ed]; exact List.mem_cons_self, hmx⟩; refine Ev.step (f := fun _ => some (([] : List Int), (1 : Int))) (fun k => ?_) (Ev.now _); rw [umpireref11_Write.l0, if_pos (by omega), if_pos (by omega), a6n l i hlt, a6L, hmx, Option.bind_some, if_neg (by decide)]
  | true =>
   have h2 := a4G l[i]; have h3 := a5b hmx; have h4 := a8B m wide l[i] hmx; have hc : (a3e (a1G m wide l[i])).length ≤ 3 := by unfold a3e Chunk.count; rw [List.length_map, List.length_range]; omega
   have next := ih (i + 1) (ns ++ (a3e (a1G m wide l[i])).map (a8A (if l[i].f0 = 1 then 2 else 1))) (by omega) (by omega) (by rw [List.length_append, List.length_map]; omega)
    (fun h => by
     have := hg (by rw [ed]; intro x hx; exact (List.mem_cons.1 hx).elim (fun e => by rw [e]; exact hmx) (h x)); rw [ed, a3U] at this; rw [List.append_assoc]; exact this)
    (fun ⟨x, hx, h⟩ => hbad ⟨x, by rw [ed]; exact List.mem_cons_of_mem _ hx, h⟩)
   have hrow := c9i (if l[i].f0 = 1 then m else 0) wide (by split <;> omega) (by split <;> omega) [a1u l[i]] (fun x hx => by rw [List.mem_singleton.1 hx]; exact a6p (hb _ (List.getElem_mem hlt))) (by simp) (fun x hx => by rw [List.mem_singleton.1 hx]; omega); rw [c0R, if_neg (show ¬ ((a1u l[i]).length : Int) < 2 by omega), if_neg (show ¬ ((a1u l[i]).length : Int) > 65535 by omega)] at hrow; have inner := d1e c0 c1 c2 c3 s0 s1 dir m wide l 2 [] i hlt hn hmx (a1G m wide l[i]).length (a1G m wide l[i]) ns (Nat.le_refl _) (by omega) next; have mid : Ev (fun k => umpireref11_Write.j2 k l 2 [] ns (i : Int) (if l[i].f0 = 1 then m else 0) c0 c1 c2 c3 s0 s1 dir m wide) r := by
    refine Ev.step (f := fun k => (O7.f k [a1u l[i]] (if l[i].f0 = 1 then m else 0) wide).bind fun t => umpireref11_Write.l1 k l 2 [] ns (i : Int) t.1 c0 c1 c2 c3 s0 s1 dir m wide) (fun k => ?_) (Ev.bind hrow inner); rw [umpireref11_Write.j2, if_pos (by omega), if_pos (by omega), a6n l i hlt, b4l _ hmx, Option.bind_some]
   refine Ev.step (fun k => ?_) mid; rw [umpireref11_Write.l0, if_pos (by omega), if_pos (by omega), a6n l i hlt, a6L, hmx, Option.bind_some, if_pos rfl, if_neg (by decide)]
   by_cases e : l[i].f0 = 1
   ·rw [if_pos e, if_pos e]
   ·rw [if_neg e, if_neg e]
theorem d6U (c0 c1 c2 c3 : Int) (s0 s1 : ByteArray) (dir m : Int) (wide : Bool) (l : List Item) (hn : l.length ≤ 60) (h : ∀ x ∈ l, a3M x = true ∧ Bytes x.f2) : Ev (fun k => capture_Write.f k l 1 c0 c1 c2 c3 s0 s1 dir m wide) (b6p l, 0) := by
 have hi := b1m l 0 fun x hx => (h x hx).1
 refine Ev.congr (fun k => ?_) (c04 l (by omega) h)
 unfold capture_Write.f
 rw [if_pos rfl, hi, Option.bind_some, if_neg (by decide)]
theorem d6V (c0 c1 c2 c3 : Int) (s0 s1 : ByteArray) (dir m : Int) (wide : Bool) (h0 : 0 ≤ m) (h1 : m < 4294967296) (l : List Item) (hn : l.length ≤ 60) (h : ∀ x ∈ l, a3M x = true ∧ Bytes x.f2) : Ev (fun k => capture_Write.f k l 2 c0 c1 c2 c3 s0 s1 dir m wide) (b3M (a3U m wide l), 0) := by
 have hi := b1m l 0 fun x hx => (h x hx).1
 refine Ev.congr (fun k => ?_) (c9p m wide h0 h1 l hn h)
 unfold capture_Write.f
 rw [if_neg (by decide), if_pos rfl, hi, Option.bind_some, if_neg (by decide)]
theorem c0G (c0 c1 c2 c3 : Int) (s0 s1 : ByteArray) (dir m : Int) (wide : Bool) (h0 : 0 ≤ m) (h1 : m < 4294967296) (form : Int) (l : List Item) (hn : l.length ≤ 60) (hb : ∀ x ∈ l, Bytes x.f2) : ∃ z : List Int × Int, Ev (fun k => capture_Write.f k l form c0 c1 c2 c3 s0 s1 dir m wide) z ∧ Ev (fun k => umpireref11_Write.f k l form c0 c1 c2 c3 s0 s1 dir m wide) z := by
 have h00 : ∀ x ∈ l.drop 0, x ∈ l := fun x hx => by rw [List.drop_zero] at hx; exact hx
 by_cases f1 : form = 1
 ·subst f1; have back : ∀ {z : List Int × Int}, Ev (fun k => umpireref11_Write.l0 k l 1 [] [] ((0 : Nat) : Int) c0 c1 c2 c3 s0 s1 dir m wide) z → Ev (fun k => umpireref11_Write.f k l 1 c0 c1 c2 c3 s0 s1 dir m wide) z := fun {z} h => by
   unfold umpireref11_Write.f; refine Ev.congr (fun k => if_pos rfl) ?_; exact Ev.step (fun k => by rw [umpireref11_Write.j0, if_neg (by decide)]; rfl) h
  by_cases hm : ∀ x ∈ l, a3M x = true
  ·refine ⟨(b6p l, 0), d6U c0 c1 c2 c3 s0 s1 dir m wide l hn (fun x hx => ⟨hm x hx, hb x hx⟩), back ?_⟩; refine d1f c0 c1 c2 c3 s0 s1 dir m wide l hn l.length 0 [] rfl (Nat.zero_le _) rfl (fun _ => ?_) (fun ⟨x, hx, h⟩ => by rw [hm x (h00 x hx)] at h; cases h); have h := fun x hx => And.intro (hm x hx) (hb x hx)
   have hf := b6q l (by omega) h; have hc := b1n l 0 hm; have hl := a8z l 0; have hp := b8N false false 65535 204 (a5c 0 l) (by omega) (fun r hr => (hf r hr).1.1) ⟨by omega, by omega⟩ ⟨by omega, by omega⟩ (by omega); rw [c02 false (a5c 0 l) (fun r hr => (hf r hr).1.2)] at hp; rw [List.drop_zero, List.nil_append]; exact hp
  ·obtain ⟨x, hx, hq⟩ : ∃ x ∈ l, a3M x = false := Classical.byContradiction fun hh => hm fun x hx => by
    cases e : a3M x with
    | true => rfl
    | false => exact absurd ⟨x, hx, e⟩ hh
   refine ⟨([], 1), Ev.congr (f := fun _ => some (([] : List Int), (1 : Int))) (fun k => b70 1 (.inl rfl) l ⟨x, hx, hq⟩ k c0 c1 c2 c3 s0 s1 dir m wide) (Ev.now _), back ?_⟩; exact d1f c0 c1 c2 c3 s0 s1 dir m wide l hn l.length 0 [] rfl (Nat.zero_le _) rfl (fun h => by rw [h x (by rw [List.drop_zero]; exact hx)] at hq; cases hq) (fun _ => rfl)
 by_cases f2 : form = 2
 ·subst f2; have back : ∀ {z : List Int × Int}, Ev (fun k => umpireref11_Write.l0 k l 2 [] [] ((0 : Nat) : Int) c0 c1 c2 c3 s0 s1 dir m wide) z → Ev (fun k => umpireref11_Write.f k l 2 c0 c1 c2 c3 s0 s1 dir m wide) z := fun {z} h => by
   unfold umpireref11_Write.f; refine Ev.congr (fun k => if_neg (by decide)) ?_; exact Ev.step (fun k => by rw [umpireref11_Write.j0, if_neg (by decide)]; rfl) h
  by_cases hm : ∀ x ∈ l, a3M x = true
  ·have h := fun x hx => And.intro (hm x hx) (hb x hx)
   refine ⟨(b3M (a3U m wide l), 0), d6V c0 c1 c2 c3 s0 s1 dir m wide h0 h1 l hn h, back ?_⟩; refine d1g c0 c1 c2 c3 s0 s1 dir m wide h0 h1 l hn hb l.length 0 [] rfl (Nat.zero_le _) (Nat.zero_le _) (fun _ => ?_) (fun ⟨x, hx, h⟩ => by rw [hm x (h00 x hx)] at h; cases h); obtain ⟨i1, i2, i3, i4⟩ := b3N m wide l h; have hp := c0Z (a3U m wide l) (by omega) i1 (by omega); rw [c0W _ _ i2, List.nil_append] at hp; rw [List.drop_zero, List.nil_append]; exact hp
  ·obtain ⟨x, hx, hq⟩ : ∃ x ∈ l, a3M x = false := Classical.byContradiction fun hh => hm fun x hx => by
    cases e : a3M x with
    | true => rfl
    | false => exact absurd ⟨x, hx, e⟩ hh
   refine ⟨([], 1), Ev.congr (f := fun _ => some (([] : List Int), (1 : Int))) (fun k => b70 2 (.inr rfl) l ⟨x, hx, hq⟩ k c0 c1 c2 c3 s0 s1 dir m wide) (Ev.now _), back ?_⟩; exact d1g c0 c1 c2 c3 s0 s1 dir m wide h0 h1 l hn hb l.length 0 [] rfl (Nat.zero_le _) (Nat.zero_le _) (fun h => by rw [h x (by rw [List.drop_zero]; exact hx)] at hq; cases hq) (fun _ => rfl)
 ·refine ⟨([], 7), Ev.congr (f := fun _ => some (([] : List Int), (7 : Int))) (fun k => ?_) (Ev.now _), ?_⟩
  ·unfold capture_Write.f; rw [if_neg f1, if_neg f2]
  ·unfold umpireref11_Write.f; refine Ev.congr (fun k => if_neg f1) ?_; refine Ev.step (f := fun _ => some (([] : List Int), (7 : Int))) (fun k => ?_) (Ev.now _); rw [umpireref11_Write.j0, if_pos (by simpa using f2)]
theorem e6U {x : Int} (h : (Lit.int .u32 x).wf = true) : 0 ≤ x ∧ x < 4294967296 := d6R h
theorem e6V {l : List Int} (h : ∀ x ∈ l, (Lit.int .u8 x).wf = true) : Bytes l := d6S h
theorem f7A (l : List Item) : ∃ b : Bool, Ev (fun k => P8.f k l) b ∧ (b = true → l.length ≤ 60) := c9r l
end Go.Proofs.YtgnonglkibhnhaaDoor.Q
