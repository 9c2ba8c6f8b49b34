/- Plain lemmas of this claim. -/
import Derived.Test.YtgnonglkibhnhaaDoorM2
import Derived.Test.YtgnonglkibhnhaaDoorM4
import Derived.Test.YtgnonglkibhnhaaDoorF14
import Derived.Test.YtgnonglkibhnhaaDoorM5
import Derived.Test.YtgnonglkibhnhaaDoorF9
namespace Go.Proofs.YtgnonglkibhnhaaDoor.Q
open Go.RowKit Go.Proofs.YtgnonglkibhnhaaDoor.Print Go.Proofs.YtgnonglkibhnhaaDoorW.PrintWords Go.Proofs.YtgnonglkibhnhaaDoorW.PrintLast Go.Proofs.YtgnonglkibhnhaaDoorW.PrintMore
set_option linter.unusedVariables false
set_option linter.unusedSimpArgs false
theorem wf_u8 {x : Int} (h : (Lit.int .u8 x).wf = true) : 0 ≤ x ∧ x < 256 := by
 simp [Lit.wf, IntKind.min, IntKind.max, IntKind.bits, IntKind.signed] at h; omega
theorem wf_u32 {x : Int} (h : (Lit.int .u32 x).wf = true) : 0 ≤ x ∧ x < 4294967296 := by
 simp [Lit.wf, IntKind.min, IntKind.max, IntKind.bits, IntKind.signed] at h; omega
/-- All are bytes. -/
def Bytes (l : List Int) : Prop := ∀ x ∈ l, 0 ≤ x ∧ x < 256
theorem bytes_wf {l : List Int} (h : ∀ x ∈ l, (Lit.int .u8 x).wf = true) : Bytes l := fun x hx => wf_u8 (h x hx)
theorem Bytes.nil : Bytes [] := fun _ h => by cases h
theorem Bytes.cons {x : Int} {l : List Int} (hx : 0 ≤ x ∧ x < 256) (h : Bytes l) : Bytes (x :: l) := by
 intro y hy
 rcases List.mem_cons.1 hy with rfl | hy
 ·exact hx
 ·exact h y hy
theorem Bytes.append {a b : List Int} (ha : Bytes a) (hb : Bytes b) : Bytes (a ++ b) := fun x hx => (List.mem_append.1 hx).elim (ha x) (hb x)
theorem Bytes.left {a b : List Int} (h : Bytes (a ++ b)) : Bytes a := fun x hx => h x (List.mem_append_left _ hx)
theorem Bytes.right {a b : List Int} (h : Bytes (a ++ b)) : Bytes b := fun x hx => h x (List.mem_append_right _ hx)
theorem Bytes.take {a : List Int} (n : Nat) (h : Bytes a) : Bytes (a.take n) := fun x hx => h x (List.mem_of_mem_take hx)
theorem Bytes.drop {a : List Int} (n : Nat) (h : Bytes a) : Bytes (a.drop n) := fun x hx => h x (List.mem_of_mem_drop hx)
theorem Bytes.reverse {a : List Int} (h : Bytes a) : Bytes a.reverse := fun x hx => h x (List.mem_reverse.1 hx)
theorem Bytes.at {a : List Int} (h : Bytes a) (i : Int) : 0 ≤ rd a i ∧ rd a i < 256 := by
 unfold rd
 rw [List.getD_eq_getElem?_getD]
 rcases Nat.lt_or_ge i.toNat a.length with hi | hi
 ·rw [List.getElem?_eq_getElem hi]
  exact h _ (List.getElem_mem hi)
 ·rw [List.getElem?_eq_none hi]
  exact ⟨by decide, by decide⟩
theorem Bytes.get {a : List Int} (h : Bytes a) (i : Nat) (hi : i < a.length) : 0 ≤ a[i] ∧ a[i] < 256 := h _ (List.getElem_mem hi)
theorem rd_get {a : List Int} (i : Nat) (hi : i < a.length) : rd a (i : Int) = a[i] := by
 unfold rd
 rw [Int.toNat_natCast, List.getD_eq_getElem?_getD, List.getElem?_eq_getElem hi]
 rfl
theorem w64 {x : Int} (h0 : -9223372036854775808 ≤ x) (h1 : x ≤ 9223372036854775807) : wrap64 x = x := by unfold wrap64; omega
theorem wu64 (x : Int) : IntKind.u64.wrap x = x % 18446744073709551616 := by simp [IntKind.wrap, IntKind.bits, IntKind.signed]
theorem wu64s {x : Int} (h0 : 0 ≤ x) (h1 : x < 18446744073709551616) : IntKind.u64.wrap x = x := by rw [wu64]; omega
theorem wu32 (x : Int) : IntKind.u32.wrap x = x % 4294967296 := by simp [IntKind.wrap, IntKind.bits, IntKind.signed]
theorem wu32s {x : Int} (h0 : 0 ≤ x) (h1 : x < 4294967296) : IntKind.u32.wrap x = x := by rw [wu32]; omega
theorem bits_u32_and {a b : Nat} (ha : a < 4294967296) (hb : b < 4294967296) : Go.bits .and .u32 (a : Int) (b : Int) = ((a &&& b : Nat) : Int) :=
 (bits_nat .u32 32 (by decide) (fun n h0 h1 => wu32s h0 (by simpa using h1)) a b (by simpa using ha) (by simpa using hb)).1
theorem u64_or_low {x y : Int} {i : Nat} (hx0 : 0 ≤ x) (hx : x % 2 ^ i = 0) (hx1 : x < 18446744073709551616) (hy0 : 0 ≤ y) (hy : y < 2 ^ i) (hy1 : y < 18446744073709551616) : Go.bits .or .u64 x y = x + y :=
 bits_join .u64 64 (by decide) (fun n h0 h1 => wu64s h0 (by simpa using h1)) i x y hx0 hx (by simpa using hx1) hy0 hy (by simpa using hy1)
theorem u32_low {x : Int} (h0 : 0 ≤ x) (h1 : x < 4294967296) : Go.bits .and .u32 x 1 = x % 2 := by
 have := bits_mask .u32 32 (by decide) (fun n h0 h1 => wu32s h0 (by simpa using h1)) 1 (by decide) x h0 (by simpa using h1)
 simpa using this
theorem Ev.at {α : Type} {g : Nat → Option α} {r : α} {K : Nat} (h : ∀ k, K ≤ k → g k = some r) : Ev g r := ⟨K, h⟩
theorem Ev.const {α : Type} {g : Option α} {r : α} (h : g = some r) : Ev (fun _ => g) r := ⟨0, fun _ _ => h⟩
theorem succ_of {k n : Nat} (h : n < k) : ∃ m, k = m + 1 ∧ n ≤ m := ⟨k - 1, by omega, by omega⟩
theorem Ev.eq {α : Type} {g : Nat → Option α} {a b : α} (h1 : Ev g a) (h2 : Ev g b) : a = b := by
 obtain ⟨K, h1⟩ := h1
 obtain ⟨K', h2⟩ := h2
 have a1 := h1 (max K K') (by omega)
 have a2 := h2 (max K K') (by omega)
 rw [a1] at a2
 exact Option.some.inj a2
/-- A number's s bytes, the lowest first. -/
def leb (n : Int) : Nat → List Int
 | 0 => []
 | s + 1 => n % 256 :: leb (n / 256) s
theorem leb_length (n : Int) (s : Nat) : (leb n s).length = s := by
 induction s generalizing n with
 | zero => rfl
 | succ s ih => simp [leb, ih]
theorem leb_bytes (n : Int) (s : Nat) : Bytes (leb n s) := by
 induction s generalizing n with
 | zero => exact Bytes.nil
 | succ s ih => exact Bytes.cons (by omega) (ih _)
theorem leb_get (n : Int) (s i : Nat) (h : i < (leb n s).length) : (leb n s)[i] = n / 256 ^ i % 256 := by
 induction s generalizing n i with
 | zero => simp [leb] at h
 | succ s ih =>
  cases i with
  | zero => simp [leb]
  | succ i =>
   simp only [leb, List.getElem_cons_succ]
   rw [ih, Int.pow_succ, Int.mul_comm, Int.ediv_ediv_of_nonneg (by decide)]
theorem leb_snoc (n : Int) (s : Nat) : leb n (s + 1) = leb n s ++ [n / 256 ^ s % 256] := by
 apply List.ext_getElem
 ·simp [leb_length]
 ·intro i h1 h2
  rw [leb_get]
  rw [leb_length] at h1
  rcases Nat.lt_or_ge i s with hi | hi
  ·rw [List.getElem_append_left (by rw [leb_length]; exact hi), leb_get]
  ·obtain rfl : i = s := by omega
   rw [List.getElem_append_right (by rw [leb_length]; exact Nat.le_refl _)]
   simp [leb_length]
/-- The number whose bytes these are, the highest first. -/
def beval (l : List Int) : Int := l.foldl (fun a b => a * 256 + b) 0
theorem beval_snoc (l : List Int) (x : Int) : beval (l ++ [x]) = beval l * 256 + x := by simp [beval]
theorem beval_range (l : List Int) (h : Bytes l) : 0 ≤ beval l ∧ beval l < 256 ^ l.length := by
 suffices ∀ r : List Int, Bytes r.reverse → 0 ≤ beval r.reverse ∧ beval r.reverse < 256 ^ r.length by
  have := this l.reverse (by rwa [List.reverse_reverse])
  rwa [List.reverse_reverse, List.length_reverse] at this
 intro r
 induction r with
 | nil => intro _; exact ⟨by decide, by decide⟩
 | cons x r ih =>
  intro hb
  rw [List.reverse_cons] at hb ⊢
  have h1 := ih hb.left
  have h2 := hb.right x (by simp)
  rw [beval_snoc, List.length_cons, Int.pow_succ]
  exact ⟨by omega, by omega⟩
theorem leb_beval (l : List Int) (h : Bytes l) : leb (beval l) l.length = l.reverse := by
 suffices ∀ r : List Int, Bytes r.reverse → leb (beval r.reverse) r.length = r by
  have := this l.reverse (by rwa [List.reverse_reverse])
  rwa [List.reverse_reverse, List.length_reverse] at this
 intro r
 induction r with
 | nil => intro _; rfl
 | cons x r ih =>
  intro hb
  rw [List.reverse_cons] at hb ⊢
  have h2 := hb.right x (by simp)
  rw [beval_snoc, List.length_cons, leb]
  rw [show (beval r.reverse * 256 + x) % 256 = x by omega, show (beval r.reverse * 256 + x) / 256 = beval r.reverse by omega, ih hb.left]
theorem beval_leb (n : Int) (s : Nat) (h0 : 0 ≤ n) (h1 : n < 256 ^ s) : beval (leb n s).reverse = n := by
 induction s generalizing n with
 | zero => simp at h1; simp [leb, beval]; omega
 | succ s ih =>
  rw [leb, List.reverse_cons, beval_snoc, ih (n / 256) (by omega) (by rw [Int.pow_succ] at h1; omega)]
  omega
/-- A number's bytes, in either order. -/
def putb (n : Int) (s : Nat) (big : Bool) : List Int := if big then (leb n s).reverse else leb n s
theorem putb_length (n : Int) (s : Nat) (big : Bool) : (putb n s big).length = s := by
 unfold putb; split <;> simp [leb_length]
theorem putb_bytes (n : Int) (s : Nat) (big : Bool) : Bytes (putb n s big) := by
 unfold putb; split
 ·exact (leb_bytes n s).reverse
 ·exact leb_bytes n s
/-- Bytes' number, in either order. -/
def getv (l : List Int) (big : Bool) : Int := beval (if big then l else l.reverse)
theorem getv_putb (n : Int) (s : Nat) (big : Bool) (h0 : 0 ≤ n) (h1 : n < 256 ^ s) : getv (putb n s big) big = n := by
 unfold getv putb
 cases big <;> simp [beval_leb n s h0 h1]
theorem putb_getv (l : List Int) (big : Bool) (h : Bytes l) : putb (getv l big) l.length big = l := by
 unfold getv putb
 cases big
 ·have := leb_beval l.reverse h.reverse
  simpa using this
 ·have := leb_beval l h
  simp [this]
theorem getv_range (l : List Int) (big : Bool) (h : Bytes l) : 0 ≤ getv l big ∧ getv l big < 256 ^ l.length := by
 unfold getv
 cases big
 ·have := beval_range l.reverse h.reverse
  simpa using this
 ·simpa using beval_range l h
theorem pow256_le {i j : Nat} (h : i ≤ j) : (256 : Int) ^ i ≤ 256 ^ j := by
 have h1 : ∀ k : Nat, (256 : Int) ^ k = ((256 ^ k : Nat) : Int) := fun k => (Int.natCast_pow 256 k).symm
 rw [h1, h1]
 exact Int.ofNat_le.2 (Nat.pow_le_pow_right (by decide) h)
theorem pow256_8 : (256 : Int) ^ 8 = 18446744073709551616 := by decide
theorem pow256_2 (i : Nat) : (256 : Int) ^ i = 2 ^ (8 * i) := by
 rw [show (256 : Int) = 2 ^ 8 from rfl, ← Int.pow_mul]
theorem clone_spec (l : List Int) (h : l.length < 140737488355328) : slices_Clone_byte_byte.f l = some l := by
 unfold slices_Clone_byte_byte.f
 rw [if_pos h]
/-- What stands behind a place. -/
def behindv (l : List Int) (at_ : Int) : List Int := l.drop at_.toNat
theorem behind_spec (l : List Int) (at_ : Int) (hl : l.length < 140737488355328) : octet_Behind.f l at_ = some (behindv l at_) := by
 unfold octet_Behind.f behindv
 have h : mn (mx at_ 0) (l.length : Int) = (min at_.toNat l.length : Nat) := by
  unfold mn mx
  split <;> split <;> omega
 rw [h, if_pos (by omega), if_pos (by omega), clone_spec _ (by rw [List.length_drop]; omega)]
 simp only [Option.bind_some, Int.toNat_natCast]
 congr 1
 rcases Nat.le_total at_.toNat l.length with e | e
 ·rw [Nat.min_eq_left e]
 ·rw [Nat.min_eq_right e, List.drop_of_length_le (Nat.le_refl _), List.drop_of_length_le e]
theorem i64_wrap {n : Int} (h0 : 0 ≤ n) (h1 : n < 2 ^ 63) : IntKind.i64.wrap n = n := by
 rw [IntKind.wrap_i64]
 have : (2 : Int) ^ 63 = 9223372036854775808 := by decide
 omega
theorem i64_low {x : Int} (h0 : 0 ≤ x) (h1 : x < 65536) : Go.bits .and .i64 x 1 = x % 2 := by
 have := bits_mask .i64 63 (by decide) (fun n h0 h1 => i64_wrap h0 h1) 1 (by decide) x h0 (Int.lt_trans h1 (by decide))
 simpa using this
theorem u8_low {x : Int} (h0 : 0 ≤ x) (h1 : x < 256) : Go.bits .and .u8 x 1 = x % 2 := by
 have := bits_mask .u8 8 (by decide) wraps_u8 1 (by decide) x h0 (by simpa using h1)
 simpa using this
theorem i64_nine {x : Int} (h0 : 0 ≤ x) (h1 : x < 65536) : (Go.bits .and .i64 x 256 = 0) ↔ x / 256 % 2 = 0 := by
 obtain ⟨n, rfl⟩ := Int.eq_ofNat_of_zero_le h0
 have h := (bits_nat .i64 63 (by decide) (fun n h0 h1 => i64_wrap h0 h1) n 256 (Nat.lt_trans (by omega : n < 65536) (by decide)) (by decide)).1
 have e : ((256 : Nat) : Int) = 256 := rfl
 rw [e] at h
 rw [h]
 have hb : n.testBit 8 = decide (n / 256 % 2 = 1) := Nat.testBit_eq_decide_div_mod_eq
 have ht : (n &&& 256).testBit 8 = n.testBit 8 := by
  rw [Nat.testBit_and, show (256 : Nat) = 2 ^ 8 from rfl, Nat.testBit_two_pow]
  simp
 constructor
 ·intro hz
  have hz' : n &&& 256 = 0 := by omega
  rw [hz', Nat.zero_testBit, hb] at ht
  have : ¬ (n / 256 % 2 = 1) := of_decide_eq_false ht.symm
  omega
 ·intro hz
  have hf : n.testBit 8 = false := by
   rw [hb]
   exact decide_eq_false (by omega)
  have : n &&& 256 = 0 := by
   apply Nat.eq_of_testBit_eq
   intro i
   rw [Nat.testBit_and, show (256 : Nat) = 2 ^ 8 from rfl, Nat.testBit_two_pow, Nat.zero_testBit]
   by_cases c : 8 = i
   ·subst c
    simp [hf]
   ·simp [c]
  rw [this]
  rfl
theorem i64_or8 {a b : Int} (ha : 0 ≤ a ∧ a < 256) (hb : 0 ≤ b ∧ b < 256) : Go.bits .or .i64 (wrap64 (wrap64 a * 256)) (wrap64 b) = 256 * a + b := by
 rw [w64 (x := a) (by omega) (by omega), w64 (x := b) (by omega) (by omega), w64 (x := a * 256) (by omega) (by omega)]
 rw [bits_join .i64 63 (by decide) (fun n h0 h1 => i64_wrap h0 h1) 8 (a * 256) b (by omega) (by omega) (Int.lt_trans (by omega : a * 256 < 65536) (by decide)) hb.1 (by simpa using hb.2) (Int.lt_trans (by omega : b < 65536) (by decide))]
 omega
/-- May a protocol be? -/
def mayv_H (p : Int) : Bool := decide (1 ≤ p ∧ p ≤ 65535 ∧ p % 2 = 1 ∧ p / 256 % 2 = 0 ∧ p ≠ 255)
theorem may_spec_H (p : Int) : head_May.f p = some (mayv_H p) := by
 unfold head_May.f mayv_H
 by_cases a : p ≥ 1
 ·rw [if_pos a]
  by_cases b : p ≤ 65535
  ·rw [if_pos b, i64_low (by omega) (by omega)]
   by_cases c : p % 2 = 1
   ·rw [if_pos c]
    by_cases d : p / 256 % 2 = 0
    ·rw [if_pos ((i64_nine (by omega) (by omega)).2 d)]
     congr 1
     rw [Bool.eq_iff_iff, bne_iff_ne, decide_eq_true_iff]
     exact ⟨fun h => ⟨a, b, c, d, h⟩, fun h => h.2.2.2.2⟩
    ·rw [if_neg (fun h => d ((i64_nine (by omega) (by omega)).1 h))]
     simp [d]
   ·rw [if_neg c]
    simp [c]
  ·rw [if_neg b]
   simp [b]
 ·rw [if_neg a]
  simp [a]
/-- How a frame begins with a protocol. -/
def headv_H (p : Int) (full short : Bool) : List Int := (if full then [255, 3] else []) ++ (if short = true ∧ p < 256 then [p % 256] else [p / 256 % 256, p % 256])
theorem hput_spec (p : Int) (full short : Bool) : head_Put.f p full short = some (if mayv_H p then (headv_H p full short, 0) else ([], 1)) := by
 unfold head_Put.f
 rw [may_spec_H]
 simp only [Option.bind_some]
 by_cases m : mayv_H p = true
 ·simp only [m, if_true]
  unfold headv_H
  cases full <;> cases short <;> simp
  all_goals (split <;> simp)
 ·simp only [m]
  simp
/-- What stands where a protocol is to stand. -/
def protoAt (rest : List Int) (at_ : Int) : Int × Int × Int :=
 match rest with
 | [] => (0, 0, 2)
 | a :: t => if a % 2 = 1 then (if a = 255 then (0, 0, 3) else (a, at_ + 1, 0)) else
  match t with
  | [] => (0, 0, 2)
  | b :: _ => if b % 2 = 0 ∨ (a = 0 ∧ b = 255) then (0, 0, 3) else (256 * a + b, at_ + 2, 0)
/-- The beginning of a frame. -/
def readv_H (l : List Int) : Int × Int × Int :=
 match l with
 | [] => (0, 0, 2)
 | a :: t => if a = 255 then (match t with | [] => (0, 0, 2) | b :: r => if b = 3 then protoAt r 2 else (0, 0, 3)) else protoAt (a :: t) 0
theorem rd0 (a : Int) (t : List Int) : rd (a :: t) 0 = a := rfl
theorem rd1 (a b : Int) (t : List Int) : rd (a :: b :: t) 1 = b := rfl
theorem may_byte {a : Int} (h : 0 ≤ a ∧ a < 256) (o : a % 2 = 1) : mayv_H a = decide (a ≠ 255) := by
 unfold mayv_H
 rw [Bool.eq_iff_iff, decide_eq_true_iff, decide_eq_true_iff]
 omega
theorem may_two {a b : Int} (ha : 0 ≤ a ∧ a < 256) (hb : 0 ≤ b ∧ b < 256) (e : a % 2 ≠ 1) : mayv_H (256 * a + b) = decide (¬ (b % 2 = 0 ∨ (a = 0 ∧ b = 255))) := by
 unfold mayv_H
 rw [Bool.eq_iff_iff, decide_eq_true_iff, decide_eq_true_iff]
 omega
theorem read_j0 (at_ : Int) (h0 : 0 ≤ at_) (h1 : at_ ≤ 2) (a : Int) (t : List Int) (hb : Bytes (a :: t)) : Ev (fun k => head_Read.j0 k at_ (a :: t) (decide (a % 2 = 1 ∧ a ≠ 255))) (protoAt (a :: t) at_) := by
 have ha := hb a (by simp)
 refine Ev.step (f := fun _ => some (protoAt (a :: t) at_)) (fun k => ?_) (Ev.now _)
 rw [head_Read.j0]
 unfold protoAt
 by_cases o : a % 2 = 1
 ·by_cases f : a = 255
  ·subst f
   simp [rd0, u8_low]
  ·rw [if_pos (by simpa using ⟨o, f⟩), if_pos (by simp <;> omega), rd0, w64 (by omega) (by omega), w64 (by omega) (by omega)]
   simp [o, f]
 ·rw [if_neg (by simp [o]), if_pos (by simp <;> omega), rd0, u8_low ha.1 ha.2, if_neg o]
  cases t with
  | nil => simp [o]
  | cons b r =>
   have hbb := hb b (by simp)
   rw [if_neg (by simp <;> omega), if_pos (by simp <;> omega), rd1, i64_or8 ha hbb, may_spec_H, may_two ha hbb o]
   simp only [Option.bind_some]
   by_cases c : b % 2 = 0 ∨ (a = 0 ∧ b = 255)
   ·simp [c, o]
   ·simp only [c, o, not_false_eq_true, decide_true, if_true, if_false]
    rw [w64 (by omega) (by omega)]
theorem begin_spec (l : List Int) : head_begin.f l = some (match l with | [] => (0, 2) | a :: t => if a = 255 then (match t with | [] => (0, 2) | b :: _ => if b = 3 then (2, 0) else (0, 3)) else (0, 0)) := by
 unfold head_begin.f
 cases l with
 | nil => rfl
 | cons a t =>
  rw [if_neg (by simp <;> omega), if_pos (by simp <;> omega), rd0]
  by_cases c : a = 255
  ·rw [if_pos c]
   cases t with
   | nil => simp [c]
   | cons b r =>
    rw [if_neg (by simp <;> omega), if_pos (by simp <;> omega), rd1]
    by_cases d : b = 3 <;> simp [c, d]
  ·rw [if_neg c]
   simp [c]
theorem read_rest (l rest : List Int) (at_ : Nat) (hr : l.drop at_ = rest) (hat : at_ ≤ 2) (hal : at_ ≤ l.length) (hb : Bytes rest)
  (hf : head_begin.f l = some ((at_ : Int), 0)) : Ev (fun k => head_Read.f k l) (protoAt rest at_) := by
 unfold head_Read.f
 rw [hf]
 simp only [Option.bind_some, if_true, show (0 : Int) ≤ (at_ : Int) by omega, show (at_ : Int) ≤ (l.length : Int) by omega, Int.toNat_natCast, hr]
 cases rest with
 | nil =>
  simp only [List.length_nil, show ((0 : Nat) : Int) = 0 from rfl, if_true]
  exact Ev.now _
 | cons a t =>
  have ha := hb a (by simp)
  have hj := read_j0 (at_ : Int) (by omega) (by omega) a t hb
  simp only [show ¬ (((a :: t).length : Int) = 0) by simp <;> omega, show (0 : Int) < ((a :: t).length : Int) by simp <;> omega, if_true, if_false, rd0, u8_low ha.1 ha.2]
  by_cases o : a % 2 = 1
  ·simp only [o, if_true, w64 (x := a) (by omega) (by omega), may_spec_H, Option.bind_some, may_byte ha o]
   simp only [o, true_and] at hj
   exact hj
  ·simp only [o, if_false]
   simp only [o, false_and, decide_false] at hj
   exact hj
theorem read_spec_H (l : List Int) (hb : Bytes l) : Ev (fun k => head_Read.f k l) (readv_H l) := by
 have hf := begin_spec l
 have no : ∀ e : Int, e ≠ 0 → head_begin.f l = some (0, e) → Ev (fun k => head_Read.f k l) (0, 0, e) := by
  intro e he h
  unfold head_Read.f
  rw [h]
  simp only [Option.bind_some, he, if_false]
  exact Ev.now _
 cases l with
 | nil => exact no 2 (by decide) hf
 | cons a t =>
  unfold readv_H
  by_cases c : a = 255
  ·simp only [c, if_true] at hf ⊢
   cases t with
   | nil => subst c; exact no 2 (by decide) hf
   | cons b r =>
    by_cases d : b = 3
    ·simp only [d, if_true] at hf ⊢
     subst c d
     exact read_rest _ r 2 rfl (by decide) (by simp) (fun x hx => hb x (by simp [hx])) hf
    ·simp only [d, if_false] at hf ⊢
     subst c
     exact no 3 (by decide) hf
  ·simp only [c, if_false] at hf ⊢
   exact read_rest _ (a :: t) 0 rfl (by decide) (by simp) hb hf
/-- A frame's protocol, and what it carries. -/
def bodyv (l : List Int) : Int × List Int × Int := if (readv_H l).2.2 = 0 then ((readv_H l).1, l.drop (readv_H l).2.1.toNat, 0) else (0, [], (readv_H l).2.2)
theorem body_spec (l : List Int) (hb : Bytes l) (hl : l.length < 140737488355328) : Ev (fun k => head_Body.f k l) (bodyv l) := by
 unfold head_Body.f bodyv
 refine Ev.bind (read_spec_H l hb) ?_
 by_cases c : (readv_H l).2.2 = 0
 ·simp only [c, if_true, behind_spec l _ hl, Option.bind_some]
  exact Ev.now _
 ·simp only [c, if_false]
  exact Ev.now _
/-- Is the character in the map? -/
def hasv (m c : Int) : Bool := decide (c < 32) && m.toNat.testBit c.toNat
theorem toNat_div (m : Int) (h : 0 ≤ m) (j : Nat) : (m / 2 ^ j) = ((m.toNat / 2 ^ j : Nat) : Int) := by
 obtain ⟨n, rfl⟩ := Int.eq_ofNat_of_zero_le h
 simp
theorem bit_of (m : Int) (h : 0 ≤ m) (j : Nat) : ((m / 2 ^ j) % 2 == 1) = m.toNat.testBit j := by
 rw [Nat.testBit_eq_decide_div_mod_eq, toNat_div m h]
 rw [Bool.eq_iff_iff, beq_iff_eq, decide_eq_true_iff]
 omega
theorem has_spec (m c : Int) (h0 : 0 ≤ m) (h1 : m < 4294967296) (hc : 0 ≤ c) : accm_Has.f m c = some (hasv m c) := by
 unfold accm_Has.f hasv
 by_cases a : c < 32
 ·rw [if_pos a, if_pos hc]
  have hs : shr .u32 m c = m / 2 ^ c.toNat := by
   unfold shr
   rw [Nat.min_eq_left (by simp [IntKind.bits]; omega)]
  have hq0 : 0 ≤ m / 2 ^ c.toNat := Int.ediv_nonneg h0 (Int.le_of_lt (Int.pow_pos (by decide)))
  have hq1 : m / 2 ^ c.toNat ≤ m := Int.ediv_le_self _ h0
  rw [hs, u32_low hq0 (by omega), bit_of m h0]
  simp [a]
 ·rw [if_neg a]
  simp [a]
/-- Is the byte told apart? -/
def apartv (m c : Int) : Bool := decide (c = 125) || (decide (c = 126) || hasv m c)
theorem apart_spec (m c : Int) (h0 : 0 ≤ m) (h1 : m < 4294967296) (hc : 0 ≤ c) : accm_Apart.f m c = some (apartv m c) := by
 unfold accm_Apart.f apartv
 rw [has_spec m c h0 h1 hc]
 by_cases a : c = 125
 ·simp [a]
 ·by_cases b : c = 126
  ·simp [b]
  ·simp [a, b]
/-- A byte, turned. -/
def turnv (c : Int) : Int := Go.bits .xor .u8 c 32
theorem turnv_nat (n : Nat) (h : n < 256) : turnv (n : Int) = ((n ^^^ 32 : Nat) : Int) := by
 have h1 : n ^^^ 32 < 2 ^ 8 := Nat.xor_lt_two_pow (by simpa using h) (by decide)
 have e2 : (BitVec.ofNat 8 n ^^^ 32#8).toNat = n ^^^ 32 := by
  rw [BitVec.toNat_xor, BitVec.toNat_ofNat, Nat.mod_eq_of_lt (show n < 2 ^ 8 by simpa using h)]
  rfl
 have e3 := wraps_u8 (((n ^^^ 32 : Nat) : Int)) (by omega) (by exact_mod_cast h1)
 rw [← e2] at e3
 rw [← e2]
 exact e3
theorem turnv_range {c : Int} (h : 0 ≤ c ∧ c < 256) : 0 ≤ turnv c ∧ turnv c < 256 := by
 obtain ⟨n, rfl⟩ := Int.eq_ofNat_of_zero_le h.1
 have h1 : n ^^^ 32 < 2 ^ 8 := Nat.xor_lt_two_pow (by omega) (by decide)
 rw [turnv_nat n (by omega)]
 omega
theorem turnv_turnv {c : Int} (h : 0 ≤ c ∧ c < 256) : turnv (turnv c) = c := by
 obtain ⟨n, rfl⟩ := Int.eq_ofNat_of_zero_le h.1
 have h1 : n ^^^ 32 < 2 ^ 8 := Nat.xor_lt_two_pow (by omega) (by decide)
 rw [turnv_nat n (by omega), turnv_nat _ (by omega), Nat.xor_assoc, Nat.xor_self, Nat.xor_zero]
/-- What a byte is, stuffed. -/
def piecev (m c : Int) : List Int := if apartv m c = true then [125, turnv c] else [c]
/-- Bytes, stuffed. -/
def stuffv (l : List Int) (m : Int) : List Int := (l.map (piecev m)).flatten
theorem piece_eq (m c : Int) (h0 : 0 ≤ m) (h1 : m < 4294967296) (hc : 0 ≤ c) : stuff_Stuff.piece m c = piecev m c := by
 unfold stuff_Stuff.piece piecev turnv
 rw [apart_spec m c h0 h1 hc]
 rfl
theorem piecev_len (m c : Int) : 1 ≤ (piecev m c).length ∧ (piecev m c).length ≤ 2 := by
 unfold piecev
 split <;> simp
theorem stuffv_nil (m : Int) : stuffv [] m = [] := rfl
theorem stuffv_cons (c : Int) (l : List Int) (m : Int) : stuffv (c :: l) m = piecev m c ++ stuffv l m := by simp [stuffv]
theorem stuffv_len (l : List Int) (m : Int) : l.length ≤ (stuffv l m).length ∧ (stuffv l m).length ≤ 2 * l.length := by
 induction l with
 | nil => simp [stuffv]
 | cons c l ih =>
  have := piecev_len m c
  rw [stuffv_cons, List.length_append, List.length_cons]
  omega
theorem stuffv_bytes {l : List Int} (h : Bytes l) (m : Int) : Bytes (stuffv l m) := by
 induction l with
 | nil => exact Bytes.nil
 | cons c l ih =>
  rw [stuffv_cons]
  refine Bytes.append ?_ (ih (fun x hx => h x (by simp [hx])))
  have hc := h c (by simp)
  unfold piecev
  split
  ·exact Bytes.cons (by omega) (Bytes.cons (turnv_range hc) Bytes.nil)
  ·exact Bytes.cons hc Bytes.nil
theorem stuff_spec (l : List Int) (m : Int) (hb : Bytes l) (h0 : 0 ≤ m) (h1 : m < 4294967296) (hl : l.length < 70368744177664) : stuff_Stuff.f l m = some (stuffv l m) := by
 have hm : l.map (stuff_Stuff.piece m) = l.map (piecev m) := List.map_congr_left (fun c hc => piece_eq m c h0 h1 (hb c hc).1)
 have := (stuffv_len l m).2
 unfold stuff_Stuff.f
 rw [hm]
 rw [if_pos]
 ·rfl
 ·refine ⟨List.all_eq_true.2 (fun c hc => ?_), by unfold stuffv at this; omega⟩
  rw [apart_spec m c h0 h1 (hb c hc).1]
  rfl
/-- Bytes, unstuffed: whether one stands behind 0x7d; what came so far. -/
def unst (m : Int) : List Int → Bool → List Int → List Int × Bool
 | [], b, acc => if b then ([], false) else (acc, true)
 | c :: t, b, acc => if c = 126 then ([], false) else if hasv m c = true then unst m t b acc else if b then unst m t false (acc ++ [turnv c]) else if c = 125 then unst m t true acc else unst m t b (acc ++ [c])
def unstuffv (l : List Int) (m : Int) : List Int × Bool := unst m l false []
theorem unst_loop (m : Int) (h0 : 0 ≤ m) (h1 : m < 4294967296) (l : List Int) (hb : Bytes l) (hl : l.length < 70368744177664) (d : Nat) : ∀ (i : Nat) (b : Bool) (acc : List Int), l.length - i = d → i ≤ l.length → acc.length ≤ i →
  Ev (fun k => stuff_Unstuff.l0 k m acc b l (l.length : Int) (i : Int)) (unst m (l.drop i) b acc) := by
 induction d with
 | zero =>
  intro i b acc hd hi ha
  refine Ev.step (f := fun _ => some (unst m (l.drop i) b acc)) (fun k => ?_) (Ev.now _)
  rw [stuff_Unstuff.l0, if_neg (by omega), List.drop_of_length_le (by omega)]
  unfold unst
  cases b <;> simp
 | succ d ih =>
  intro i b acc hd hi ha
  have hil : i < l.length := by omega
  have hc := hb _ (List.getElem_mem hil)
  rw [List.drop_eq_getElem_cons hil]
  unfold unst
  by_cases e1 : l[i] = 126
  ·refine Ev.step (f := fun _ => some (([] : List Int), false)) (fun k => ?_) ?_
   ·rw [stuff_Unstuff.l0, if_pos (by omega), if_pos (by omega), if_pos (by omega), rd_get i hil, if_pos e1]
   ·rw [if_pos e1]
    exact Ev.now _
  ·rw [if_neg e1]
   by_cases e2 : hasv m l[i] = true
   ·rw [if_pos e2]
    refine Ev.step (fun k => ?_) (ih (i + 1) b acc (by omega) (by omega) (by omega))
    rw [stuff_Unstuff.l0, if_pos (by omega), if_pos (by omega), if_pos (by omega), rd_get i hil, if_neg e1, has_spec m _ h0 h1 hc.1]
    simp only [Option.bind_some, e2, if_true]
    rw [w64 (by omega) (by omega)]
    rfl
   ·rw [if_neg e2]
    by_cases e3 : b = true
    ·rw [if_pos e3]
     refine Ev.step (fun k => ?_) (ih (i + 1) false (acc ++ [turnv l[i]]) (by omega) (by omega) (by simp; omega))
     rw [stuff_Unstuff.l0, if_pos (by omega), if_pos (by omega), if_pos (by omega), rd_get i hil, if_neg e1, has_spec m _ h0 h1 hc.1]
     simp only [Option.bind_some, e2, e3, Bool.false_eq_true, if_true, if_false]
     rw [if_pos (by omega), w64 (by omega) (by omega)]
     rfl
    ·rw [if_neg e3]
     by_cases e4 : l[i] = 125
     ·rw [if_pos e4]
      refine Ev.step (fun k => ?_) (ih (i + 1) true acc (by omega) (by omega) (by omega))
      rw [stuff_Unstuff.l0, if_pos (by omega), if_pos (by omega), if_pos (by omega), rd_get i hil, if_neg e1, has_spec m _ h0 h1 hc.1]
      simp only [Option.bind_some, e2, e3, e4, Bool.false_eq_true, if_true, if_false]
      rw [w64 (by omega) (by omega)]
      rfl
     ·rw [if_neg e4]
      refine Ev.step (fun k => ?_) (ih (i + 1) b (acc ++ [l[i]]) (by omega) (by omega) (by simp; omega))
      rw [stuff_Unstuff.l0, if_pos (by omega), if_pos (by omega), if_pos (by omega), rd_get i hil, if_neg e1, has_spec m _ h0 h1 hc.1]
      simp only [Option.bind_some, e2, e3, e4, Bool.false_eq_true, if_true, if_false]
      rw [if_pos (by omega), w64 (by omega) (by omega)]
      rfl
theorem unstuff_spec (l : List Int) (m : Int) (hb : Bytes l) (h0 : 0 ≤ m) (h1 : m < 4294967296) (hl : l.length < 70368744177664) : Ev (fun k => stuff_Unstuff.f k l m) (unstuffv l m) := by
 have := unst_loop m h0 h1 l hb hl l.length 0 false [] (by omega) (by omega) (by simp)
 exact this
/-- What the reference makes of bytes of which the map's are left out. -/
def runst : List Int → List Int → List Int × Bool
 | [], acc => (acc, true)
 | c :: t, acc => if c = 126 then ([], false) else if c = 125 then (match t with | [] => ([], false) | d :: t' => if d = 126 then ([], false) else runst t' (acc ++ [turnv d])) else runst t (acc ++ [c])
theorem runst_cons (c : Int) (t acc : List Int) : runst (c :: t) acc = if c = 126 then ([], false) else if c = 125 then (match t with | [] => ([], false) | d :: t' => if d = 126 then ([], false) else runst t' (acc ++ [turnv d])) else runst t (acc ++ [c]) := by
 conv => lhs; rw [runst.eq_def]
theorem hasv_high (m c : Int) (h : 32 ≤ c) : hasv m c = false := by
 unfold hasv
 rw [show decide (c < 32) = false by apply decide_eq_false; omega]
 rfl
theorem unst_runst (m : Int) (l : List Int) : (∀ acc, unst m l false acc = runst (l.filter fun c => !hasv m c) acc) ∧
  (∀ acc, unst m l true acc = match (l.filter fun c => !hasv m c) with | [] => ([], false) | d :: t => if d = 126 then ([], false) else runst t (acc ++ [turnv d])) := by
 induction l with
 | nil => exact ⟨fun acc => by simp [unst, runst], fun acc => by simp [unst]⟩
 | cons c t ih =>
  constructor
  ·intro acc
   unfold unst
   by_cases e1 : c = 126
   ·have := hasv_high m c (by omega)
    rw [if_pos e1, List.filter_cons, this]
    simp only [Bool.not_false, if_true]
    rw [runst_cons, if_pos e1]
   ·rw [if_neg e1]
    by_cases e2 : hasv m c = true
    ·rw [if_pos e2, List.filter_cons, e2]
     simp only [Bool.not_true, Bool.false_eq_true, if_false]
     exact ih.1 acc
    ·have e2' : hasv m c = false := by simpa using e2
     rw [if_neg e2, List.filter_cons, e2']
     simp only [Bool.not_false, if_true, Bool.false_eq_true, if_false]
     by_cases e3 : c = 125
     ·rw [if_pos e3, runst_cons, if_neg e1, if_pos e3, ih.2 acc]
     ·rw [if_neg e3, runst_cons, if_neg e1, if_neg e3, ih.1]
  ·intro acc
   unfold unst
   by_cases e1 : c = 126
   ·have := hasv_high m c (by omega)
    rw [if_pos e1, List.filter_cons, this]
    simp only [Bool.not_false, if_true, e1]
   ·rw [if_neg e1]
    by_cases e2 : hasv m c = true
    ·rw [if_pos e2, List.filter_cons, e2]
     simp only [Bool.not_true, Bool.false_eq_true, if_false]
     exact ih.2 acc
    ·have e2' : hasv m c = false := by simpa using e2
     rw [if_neg e2, List.filter_cons, e2']
     simp only [Bool.not_false, if_true, e1, if_false]
     exact ih.1 _
theorem turn_high {c : Int} (hc : 0 ≤ c ∧ c < 32) : 32 ≤ turnv c ∧ turnv c < 64 := by
 obtain ⟨n, rfl⟩ := Int.eq_ofNat_of_zero_le hc.1
 have h : ∀ n : Nat, n < 32 → 32 ≤ n ^^^ 32 ∧ n ^^^ 32 < 64 := by decide
 have := h n (by omega)
 rw [turnv_nat n (by omega)]
 omega
theorem turn_out (m c : Int) (hc : 0 ≤ c ∧ c < 256) (a : apartv m c = true) : 32 ≤ turnv c ∧ turnv c ≠ 126 := by
 unfold apartv at a
 simp only [Bool.or_eq_true, decide_eq_true_eq] at a
 rcases a with a | a | a
 ·subst a
  have := turnv_nat 125 (by decide)
  rw [show ((125 : Int)) = ((125 : Nat) : Int) from rfl, this]
  decide
 ·subst a
  have := turnv_nat 126 (by decide)
  rw [show ((126 : Int)) = ((126 : Nat) : Int) from rfl, this]
  decide
 ·unfold hasv at a
  simp only [Bool.and_eq_true, decide_eq_true_eq] at a
  have := turn_high ⟨hc.1, a.1⟩
  omega
theorem piece_out (m c : Int) (hc : 0 ≤ c ∧ c < 256) : ∀ x ∈ piecev m c, x ≠ 126 ∧ hasv m x = false := by
 intro x hx
 unfold piecev at hx
 by_cases a : apartv m c = true
 ·rw [if_pos a] at hx
  have ht := turn_out m c hc a
  rcases List.mem_cons.1 hx with rfl | hx
  ·exact ⟨by decide, hasv_high m 125 (by decide)⟩
  ·rcases List.mem_cons.1 hx with rfl | hx
   ·exact ⟨ht.2, hasv_high m _ ht.1⟩
   ·cases hx
 ·rw [if_neg a] at hx
  rcases List.mem_cons.1 hx with rfl | hx
  ·unfold apartv at a
   simp only [Bool.or_eq_true, decide_eq_true_eq, not_or] at a
   exact ⟨a.2.1, by simpa using a.2.2⟩
  ·cases hx
theorem stuff_out (m : Int) (l : List Int) (hb : Bytes l) : ∀ x ∈ stuffv l m, x ≠ 126 ∧ hasv m x = false := by
 induction l with
 | nil => intro x hx; cases hx
 | cons c l ih =>
  intro x hx
  rw [stuffv_cons] at hx
  rcases List.mem_append.1 hx with hx | hx
  ·exact piece_out m c (hb c (by simp)) x hx
  ·exact ih (fun y hy => hb y (by simp [hy])) x hx
theorem runst_stuff (m : Int) (l : List Int) (hb : Bytes l) : ∀ acc, runst (stuffv l m) acc = (acc ++ l, true) := by
 induction l with
 | nil => intro acc; rw [stuffv_nil, runst, List.append_nil]
 | cons c l ih =>
  intro acc
  have hc := hb c (by simp)
  have ih := ih (fun y hy => hb y (by simp [hy]))
  rw [stuffv_cons]
  unfold piecev
  by_cases a : apartv m c = true
  ·have ht := turn_out m c hc a
   rw [if_pos a, List.cons_append, List.cons_append, List.nil_append, runst_cons, if_neg (by decide), if_pos rfl]
   dsimp only
   rw [if_neg ht.2, turnv_turnv hc, ih, List.append_assoc]
   rfl
  ·have a' := a
   unfold apartv at a'
   simp only [Bool.or_eq_true, decide_eq_true_eq, not_or] at a'
   rw [if_neg a, List.cons_append, List.nil_append, runst_cons, if_neg a'.2.1, if_neg a'.1, ih, List.append_assoc]
   rfl
/-- Bytes that are a stuffed text but for characters of a map come back. -/
theorem back_of (m n : Int) (l y : List Int) (hb : Bytes l) (h : (y.filter fun c => !hasv n c) = stuffv l m) : unstuffv y n = (l, true) := by
 unfold unstuffv
 rw [(unst_runst n y).1 [], h, runst_stuff m l hb [], List.nil_append]
theorem keep_all (m n : Int) (l : List Int) (hb : Bytes l) (hs : ∀ c, hasv n c = true → hasv m c = true) : ((stuffv l m).filter fun c => !hasv n c) = stuffv l m := by
 rw [List.filter_eq_self]
 intro c hc
 have := (stuff_out m l hb c hc).2
 by_cases h : hasv n c = true
 ·rw [hs c h] at this
  cases this
 ·simpa using h
/-- One bit goes out of the register. -/
def S (p n : Nat) : Nat := if n % 2 = 1 then (n / 2) ^^^ p else n / 2
def Sn (p : Nat) : Nat → Nat → Nat
 | 0, n => n
 | k + 1, n => S p (Sn p k n)
theorem xor_half (a b : Nat) : (a ^^^ b) / 2 = (a / 2) ^^^ (b / 2) := by
 apply Nat.eq_of_testBit_eq
 intro i
 simp [Nat.testBit_xor, ← Nat.testBit_succ]
theorem xor_odd (a b : Nat) : ((a ^^^ b) % 2 = 1) ↔ ¬ ((a % 2 = 1) ↔ (b % 2 = 1)) := by
 have h : ∀ n : Nat, (n % 2 = 1) ↔ n.testBit 0 = true := fun n => by simp [Nat.testBit_zero]
 rw [h, h, h, Nat.testBit_xor]
 cases a.testBit 0 <;> cases b.testBit 0 <;> simp
theorem S_xor (p a b : Nat) : S p (a ^^^ b) = S p a ^^^ S p b := by
 unfold S
 have h := xor_odd a b
 rw [xor_half]
 by_cases ha : a % 2 = 1 <;> by_cases hb : b % 2 = 1
 ·rw [if_neg (by rw [h]; simp [ha, hb]), if_pos ha, if_pos hb]
  rw [Nat.xor_assoc, ← Nat.xor_assoc p, Nat.xor_comm p, Nat.xor_assoc (b / 2), Nat.xor_self, Nat.xor_zero]
 ·rw [if_pos (by rw [h]; simp [ha, hb]), if_pos ha, if_neg hb, Nat.xor_assoc, Nat.xor_assoc, Nat.xor_comm p]
 ·rw [if_pos (by rw [h]; simp [ha, hb]), if_neg ha, if_pos hb, Nat.xor_assoc]
 ·rw [if_neg (by rw [h]; simp [ha, hb]), if_neg ha, if_neg hb]
theorem Sn_xor (p k a b : Nat) : Sn p k (a ^^^ b) = Sn p k a ^^^ Sn p k b := by
 induction k with
 | zero => rfl
 | succ k ih => rw [Sn, ih, S_xor]; rfl
theorem Sn_add (p a b n : Nat) : Sn p (a + b) n = Sn p b (Sn p a n) := by
 induction b with
 | zero => rfl
 | succ b ih => rw [← Nat.add_assoc, Sn, ih]; rfl
theorem S_two (p n : Nat) : S p (n * 2) = n := by
 unfold S
 rw [if_neg (by omega)]
 omega
theorem Sn_shift (p k n : Nat) : Sn p k (n * 2 ^ k) = n := by
 induction k generalizing n with
 | zero => simp [Sn]
 | succ k ih => rw [Sn, Nat.pow_succ, show n * (2 ^ k * 2) = n * 2 * 2 ^ k by rw [Nat.mul_comm (2 ^ k), Nat.mul_assoc], ih, S_two]
theorem xor_split (n k : Nat) : (n % 2 ^ k) ^^^ (n / 2 ^ k * 2 ^ k) = n := by
 apply Nat.eq_of_testBit_eq
 intro i
 rw [Nat.testBit_xor, Nat.testBit_mod_two_pow, Nat.testBit_mul_two_pow]
 by_cases h : i < k
 ·simp [h, Nat.not_le.2 h]
 ·have h' : k ≤ i := by omega
  simp [h, h', Nat.testBit_div_two_pow, Nat.sub_add_cancel h', Nat.add_sub_cancel' h']
theorem add_xor {a k : Nat} (b : Nat) (h : a < 2 ^ k) : a + b * 2 ^ k = a ^^^ (b * 2 ^ k) := by
 have := xor_split (a + b * 2 ^ k) k
 rw [Nat.add_mul_mod_self_right, Nat.mod_eq_of_lt h, Nat.add_mul_div_right _ _ (Nat.two_pow_pos k), Nat.div_eq_of_lt h, Nat.zero_add] at this
 exact this.symm
/-- The bytes' number, the lowest first. -/
def leN : List Int → Nat
 | [] => 0
 | c :: l => c.toNat ^^^ (leN l * 256)
/-- The register behind a byte. -/
def stpN (p r : Nat) (c : Int) : Nat := (r / 256) ^^^ Sn p 8 ((r % 256) ^^^ c.toNat)
theorem stpN_eq (p r : Nat) (c : Int) : stpN p r c = Sn p 8 (r ^^^ c.toNat) := by
 have h := xor_split r 8
 conv => rhs; rw [← h]
 rw [show (r % 2 ^ 8 ^^^ r / 2 ^ 8 * 2 ^ 8 ^^^ c.toNat) = ((r % 2 ^ 8 ^^^ c.toNat) ^^^ r / 2 ^ 8 * 2 ^ 8) by rw [Nat.xor_assoc, Nat.xor_comm (r / 2 ^ 8 * 2 ^ 8), Nat.xor_assoc], Sn_xor, Sn_shift, Nat.xor_comm]
 rfl
def moreN (p r : Nat) (l : List Int) : Nat := l.foldl (stpN p) r
theorem moreN_cons (p r : Nat) (c : Int) (l : List Int) : moreN p r (c :: l) = moreN p (stpN p r c) l := rfl
theorem moreN_append (p r : Nat) (a b : List Int) : moreN p r (a ++ b) = moreN p (moreN p r a) b := by simp [moreN]
theorem moreN_eq (p r : Nat) (l : List Int) : moreN p r l = Sn p (8 * l.length) (r ^^^ leN l) := by
 induction l generalizing r with
 | nil => simp [moreN, leN, Sn]
 | cons c l ih =>
  rw [moreN_cons, ih, stpN_eq, List.length_cons, show 8 * (l.length + 1) = 8 + 8 * l.length by omega, Sn_add, leN, ← Nat.xor_assoc, Sn_xor p 8 (r ^^^ c.toNat), show (256 : Nat) = 2 ^ 8 from rfl, Sn_shift]
theorem xor_zero_eq {a b : Nat} (h : a ^^^ b = 0) : a = b := by
 have h1 : (a ^^^ b) ^^^ b = b := by rw [h, Nat.zero_xor]
 rwa [Nat.xor_assoc, Nat.xor_self, Nat.xor_zero] at h1
theorem S_lt {p b n : Nat} (hp : p < 2 ^ b) (hn : n < 2 ^ b) : S p n < 2 ^ b := by
 unfold S
 split
 ·exact Nat.xor_lt_two_pow (by omega) hp
 ·omega
theorem Sn_lt {p b n : Nat} (k : Nat) (hp : p < 2 ^ b) (hn : n < 2 ^ b) : Sn p k n < 2 ^ b := by
 induction k with
 | zero => exact hn
 | succ k ih => exact S_lt hp ih
theorem stpN_lt {p b r : Nat} {c : Int} (hb : 8 ≤ b) (hp : p < 2 ^ b) (hr : r < 2 ^ b) (hc : 0 ≤ c ∧ c < 256) : stpN p r c < 2 ^ b := by
 rw [stpN_eq]
 have : 2 ^ 8 ≤ 2 ^ b := Nat.pow_le_pow_right (by decide) hb
 exact Sn_lt 8 hp (Nat.xor_lt_two_pow hr (by omega))
theorem moreN_lt {p b r : Nat} {l : List Int} (hb : 8 ≤ b) (hp : p < 2 ^ b) (hr : r < 2 ^ b) (hl : Bytes l) : moreN p r l < 2 ^ b := by
 induction l generalizing r with
 | nil => exact hr
 | cons c l ih => exact ih (stpN_lt hb hp hr (hl c (by simp))) (fun x hx => hl x (by simp [hx]))
theorem S_inj0 {p b n : Nat} (hp : 2 ^ (b - 1) ≤ p) (hb : 1 ≤ b) (hn : n < 2 ^ b) (h : S p n = 0) : n = 0 := by
 obtain ⟨c, rfl⟩ : ∃ c, b = c + 1 := ⟨b - 1, by omega⟩
 rw [Nat.add_sub_cancel] at hp
 rw [Nat.pow_succ] at hn
 unfold S at h
 split at h
 ·have := xor_zero_eq h
  omega
 ·omega
theorem Sn_inj0 {p b n : Nat} (k : Nat) (hp : 2 ^ (b - 1) ≤ p) (hp1 : p < 2 ^ b) (hb : 1 ≤ b) (hn : n < 2 ^ b) (h : Sn p k n = 0) : n = 0 := by
 induction k with
 | zero => exact h
 | succ k ih => exact ih (S_inj0 hp hb (Sn_lt k hp1 hn) h)
theorem Sn_inj {p b m n : Nat} (k : Nat) (hp : 2 ^ (b - 1) ≤ p) (hp1 : p < 2 ^ b) (hb : 1 ≤ b) (hm : m < 2 ^ b) (hn : n < 2 ^ b) (h : Sn p k m = Sn p k n) : m = n := by
 have h1 : Sn p k (m ^^^ n) = 0 := by rw [Sn_xor, h, Nat.xor_self]
 exact xor_zero_eq (Sn_inj0 k hp hp1 hb (Nat.xor_lt_two_pow hm hn) h1)
theorem leN_lt {l : List Int} (h : Bytes l) : leN l < 2 ^ (8 * l.length) := by
 induction l with
 | nil => simp [leN]
 | cons c l ih =>
  have hc := h c (by simp)
  have hl := ih (fun x hx => h x (by simp [hx]))
  rw [leN, List.length_cons, show (256 : Nat) = 2 ^ 8 from rfl, ← add_xor _ (by omega), show 8 * (l.length + 1) = 8 * l.length + 8 by omega, Nat.pow_add]
  omega
theorem leN_leb (n s : Nat) (h : n < 256 ^ s) : leN (leb (n : Int) s) = n := by
 induction s generalizing n with
 | zero => simp at h; subst h; rfl
 | succ s ih =>
  rw [Nat.pow_succ] at h
  rw [leb, leN, show ((n : Int) / 256) = ((n / 256 : Nat) : Int) by omega, ih (n / 256) (by omega), show ((n : Int) % 256).toNat = n % 2 ^ 8 by omega]
  exact xor_split n 8
theorem leb_leN {l : List Int} (h : Bytes l) : leb (leN l : Int) l.length = l := by
 induction l with
 | nil => rfl
 | cons c l ih =>
  have hc := h c (by simp)
  have hl := ih (fun x hx => h x (by simp [hx]))
  have e : leN (c :: l) = c.toNat + leN l * 256 := by
   rw [leN, show (256 : Nat) = 2 ^ 8 from rfl, ← add_xor _ (by omega)]
  rw [e, List.length_cons, leb, show (((c.toNat + leN l * 256 : Nat) : Int) % 256) = c by omega, show (((c.toNat + leN l * 256 : Nat) : Int) / 256) = (leN l : Int) by omega, hl]
/-- The check sequences' numbers. -/
def byN (wide : Bool) : Nat := if wide = true then 3988292384 else 33800
def wid (wide : Bool) : Nat := if wide = true then 32 else 16
def allN (wide : Bool) : Nat := 2 ^ wid wide - 1
def goodN (wide : Bool) : Nat := if wide = true then 3736805603 else 61624
def sizeN (wide : Bool) : Nat := if wide = true then 4 else 2
theorem byN_lt (wide : Bool) : byN wide < 2 ^ wid wide := by cases wide <;> decide
theorem byN_ge (wide : Bool) : 2 ^ (wid wide - 1) ≤ byN wide := by cases wide <;> decide
theorem wid_ge (wide : Bool) : 8 ≤ wid wide := by cases wide <;> decide
theorem wid_le (wide : Bool) : wid wide ≤ 32 := by cases wide <;> decide
theorem wid_size (wide : Bool) : wid wide = 8 * sizeN wide := by cases wide <;> rfl
theorem allN_lt (wide : Bool) : allN wide < 2 ^ wid wide := by cases wide <;> decide
theorem good_eq (wide : Bool) : Sn (byN wide) (wid wide) (allN wide) = goodN wide := by cases wide <;> decide +kernel
def ofN (l : List Int) (wide : Bool) : Nat := moreN (byN wide) (allN wide) l ^^^ allN wide
theorem more_lt (l : List Int) (wide : Bool) (r : Nat) (hr : r < 2 ^ wid wide) (h : Bytes l) : moreN (byN wide) r l < 2 ^ wid wide := moreN_lt (wid_ge wide) (byN_lt wide) hr h
theorem of_lt (l : List Int) (wide : Bool) (h : Bytes l) : ofN l wide < 2 ^ wid wide := Nat.xor_lt_two_pow (more_lt l wide _ (allN_lt wide) h) (allN_lt wide)
theorem pow256_wid (wide : Bool) : 256 ^ sizeN wide = 2 ^ wid wide := by cases wide <;> decide
/-- What ends in the check sequence of what is ahead, and nothing else, leads to the good register. -/
theorem good_iff (x s : List Int) (wide : Bool) (hx : Bytes x) (hs : Bytes s) (hl : s.length = sizeN wide) : moreN (byN wide) (allN wide) (x ++ s) = goodN wide ↔ s = leb (ofN x wide : Int) (sizeN wide) := by
 have h1 : moreN (byN wide) (allN wide) (x ++ s) = Sn (byN wide) (wid wide) (moreN (byN wide) (allN wide) x ^^^ leN s) := by
  rw [moreN_append, moreN_eq _ _ s, hl, ← wid_size]
 have hm := more_lt x wide _ (allN_lt wide) hx
 have hn : leN s < 2 ^ wid wide := by
  have := leN_lt hs
  rwa [hl, ← wid_size] at this
 rw [h1, ← good_eq]
 constructor
 ·intro h
  have e := Sn_inj (wid wide) (byN_ge wide) (byN_lt wide) (by have := wid_ge wide; omega) (Nat.xor_lt_two_pow hm hn) (allN_lt wide) h
  have e2 : leN s = ofN x wide := by
   unfold ofN
   conv => rhs; rhs; rw [← e]
   rw [← Nat.xor_assoc, Nat.xor_self, Nat.zero_xor]
  rw [← e2, ← hl, leb_leN hs]
 ·intro h
  have e2 : leN s = ofN x wide := by
   rw [h, leN_leb _ _ (by rw [pow256_wid]; exact of_lt x wide hx)]
  rw [e2]
  unfold ofN
  rw [← Nat.xor_assoc, Nat.xor_self, Nat.zero_xor]
theorem bits_u32_xor {a b : Nat} (ha : a < 4294967296) (hb : b < 4294967296) : Go.bits .xor .u32 (a : Int) (b : Int) = ((a ^^^ b : Nat) : Int) := by
 have h1 : a ^^^ b < 2 ^ 32 := Nat.xor_lt_two_pow (by omega) (by omega)
 have e2 : (BitVec.ofNat 32 a ^^^ BitVec.ofNat 32 b).toNat = a ^^^ b := by
  rw [BitVec.toNat_xor, BitVec.toNat_ofNat, BitVec.toNat_ofNat, Nat.mod_eq_of_lt (show a < 2 ^ 32 by omega), Nat.mod_eq_of_lt (show b < 2 ^ 32 by omega)]
 have e3 := wu32s (x := ((a ^^^ b : Nat) : Int)) (by omega) (by omega)
 rw [← e2] at e3
 rw [← e2]
 exact e3
theorem bits_u8_xor {a b : Nat} (ha : a < 256) (hb : b < 256) : Go.bits .xor .u8 (a : Int) (b : Int) = ((a ^^^ b : Nat) : Int) := by
 have h1 : a ^^^ b < 2 ^ 8 := Nat.xor_lt_two_pow (by omega) (by omega)
 have e2 : (BitVec.ofNat 8 a ^^^ BitVec.ofNat 8 b).toNat = a ^^^ b := by
  rw [BitVec.toNat_xor, BitVec.toNat_ofNat, BitVec.toNat_ofNat, Nat.mod_eq_of_lt (by simpa using ha), Nat.mod_eq_of_lt (by simpa using hb)]
 have e3 := wraps_u8 (((a ^^^ b : Nat) : Int)) (by omega) (by omega)
 rw [← e2] at e3
 rw [← e2]
 exact e3
theorem bit_nat (p n : Nat) (hp : p < 2 ^ 32) (hn : n < 2 ^ 32) : fcs_table.bit (p : Int) (n : Int) = ((S p n : Nat) : Int) := by
 unfold fcs_table.bit S
 rw [u32_low (by omega) (by omega), show ((n : Int) / 2) = ((n / 2 : Nat) : Int) by omega]
 by_cases h : n % 2 = 1
 ·rw [if_pos (by omega), if_pos h, bits_u32_xor (by omega) (by omega)]
 ·rw [if_neg (by omega), if_neg h]
theorem bitn_nat (p n k : Nat) (hp : p < 2 ^ 32) (hn : n < 2 ^ 32) : fcs_table.bitn (p : Int) k (n : Int) = ((Sn p k n : Nat) : Int) := by
 induction k with
 | zero => rfl
 | succ k ih => rw [fcs_table.bitn, ih, bit_nat _ _ hp (Sn_lt k hp hn)]; rfl
theorem by_nat (wide : Bool) : fcs_table.by wide = (byN wide : Int) := by cases wide <;> rfl
theorem byN_32 (wide : Bool) : byN wide < 2 ^ 32 := by cases wide <;> decide
theorem allN_32 (wide : Bool) : allN wide < 4294967296 := by cases wide <;> decide
theorem all_spec (wide : Bool) : fcs_all.f wide = some (allN wide : Int) := by cases wide <;> rfl
theorem size_nat (wide : Bool) : fcs_Size.f wide = some (sizeN wide : Int) := by cases wide <;> rfl
theorem stp_nat (p r : Nat) (c : Int) (hp : p < 2 ^ 32) (hr : r < 2 ^ 32) (hc : 0 ≤ c ∧ c < 256) : fcs_More.stp (p : Int) (r : Int) c = ((stpN p r c : Nat) : Int) := by
 obtain ⟨n, rfl⟩ := Int.eq_ofNat_of_zero_le hc.1
 have h1 : r % 256 ^^^ n < 2 ^ 8 := Nat.xor_lt_two_pow (by omega) (by omega)
 have h2 : r % 256 ^^^ n < 2 ^ 32 := by omega
 unfold fcs_More.stp stpN
 rw [show ((r : Int) % 256) = ((r % 256 : Nat) : Int) by omega, bits_u8_xor (by omega) (by omega), bitn_nat _ _ _ hp h2, show ((r : Int) / 256) = ((r / 256 : Nat) : Int) by omega, Int.toNat_natCast]
 exact bits_u32_xor (by omega) (Sn_lt 8 hp h2)
theorem fold_nat (p : Nat) (hp : p < 2 ^ 32) (l : List Int) (hl : Bytes l) : ∀ r : Nat, r < 2 ^ 32 → l.foldl (fcs_More.stp (p : Int)) (r : Int) = ((moreN p r l : Nat) : Int) := by
 induction l with
 | nil => intro r hr; rfl
 | cons c l ih =>
  intro r hr
  have hc := hl c (by simp)
  rw [List.foldl_cons, stp_nat p r c hp hr hc, ih (fun x hx => hl x (by simp [hx])) _ (stpN_lt (by decide) hp hr hc)]
  rfl
theorem and_all (n : Nat) (wide : Bool) : n &&& allN wide = n % 2 ^ wid wide := Nat.and_two_pow_sub_one_eq_mod n (wid wide)
theorem more_spec (n : Nat) (l : List Int) (wide : Bool) (hn : n < 4294967296) (hl : Bytes l) : fcs_More.f (n : Int) l wide = some ((moreN (byN wide) (n % 2 ^ wid wide) l : Nat) : Int) := by
 unfold fcs_More.f
 rw [all_spec, Option.bind_some, by_nat, bits_u32_and hn (allN_32 wide), and_all, fold_nat _ (byN_32 wide) l hl]
 have : n % 2 ^ wid wide ≤ n := Nat.mod_le _ _
 omega
theorem all_mod (wide : Bool) : allN wide % 2 ^ wid wide = allN wide := Nat.mod_eq_of_lt (allN_lt wide)
theorem more_all (l : List Int) (wide : Bool) (hl : Bytes l) : fcs_More.f (allN wide : Int) l wide = some ((moreN (byN wide) (allN wide) l : Nat) : Int) := by
 have := more_spec (allN wide) l wide (allN_32 wide) hl
 rwa [all_mod] at this
theorem lt32 {n : Nat} {wide : Bool} (h : n < 2 ^ wid wide) : n < 4294967296 := by
 have : 2 ^ wid wide ≤ 2 ^ 32 := Nat.pow_le_pow_right (by decide) (wid_le wide)
 omega
theorem of_spec (l : List Int) (wide : Bool) (hl : Bytes l) : fcs_Of.f l wide = some ((ofN l wide : Nat) : Int) := by
 unfold fcs_Of.f
 simp only [all_spec, more_all l wide hl, Option.bind_some]
 rw [bits_u32_xor (lt32 (more_lt l wide _ (allN_lt wide) hl)) (allN_32 wide)]
 rfl
/-- Bytes, sealed. -/
def sealv (l : List Int) (wide : Bool) : List Int := l ++ leb (ofN l wide : Int) (sizeN wide)
theorem sealv_bytes {l : List Int} (h : Bytes l) (wide : Bool) : Bytes (sealv l wide) := h.append (leb_bytes _ _)
theorem sealv_length (l : List Int) (wide : Bool) : (sealv l wide).length = l.length + sizeN wide := by
 unfold sealv
 rw [List.length_append, leb_length]
theorem sizeN_le (wide : Bool) : sizeN wide ≤ 4 := by cases wide <;> decide
theorem seal_loop (d : Nat) : ∀ (i s : Nat) (acc : List Int) (n : Int), s = i + d → s ≤ 4 → acc.length + d < 140737488355328 → 0 ≤ n →
  Ev (fun k => fcs_Seal.l0 k acc n (s : Int) (i : Int)) (acc ++ leb n d) := by
 induction d with
 | zero =>
  intro i s acc n hs h4 ha hn
  refine Ev.step (f := fun _ => some (acc ++ leb n 0)) (fun k => ?_) (Ev.now _)
  rw [fcs_Seal.l0, if_neg (by omega)]
  simp [leb]
 | succ d ih =>
  intro i s acc n hs h4 ha hn
  have next := ih (i + 1) s (acc ++ [n % 256]) (n / 256) (by omega) h4 (by simp; omega) (by omega)
  rw [List.append_assoc] at next
  refine Ev.step (fun k => ?_) next
  rw [fcs_Seal.l0, if_pos (by omega), if_pos (by omega), w64 (by omega) (by omega)]
  rfl
theorem seal_spec (l : List Int) (wide : Bool) (hl : Bytes l) (hn : l.length ≤ 100000) : Ev (fun k => fcs_Seal.f k l wide) (sealv l wide) := by
 have h4 := sizeN_le wide
 unfold fcs_Seal.f
 refine Ev.bind (Ev.const (show slices_Clone_byte_byte.f l = some l by unfold slices_Clone_byte_byte.f; rw [if_pos (by omega)])) ?_
 simp only [of_spec l wide hl, size_nat, Option.bind_some]
 exact seal_loop (sizeN wide) 0 (sizeN wide) l (ofN l wide : Int) (by omega) h4 (by omega) (by omega)
def goodv (l : List Int) (wide : Bool) : Bool := decide (sizeN wide ≤ l.length) && decide (moreN (byN wide) (allN wide) l = goodN wide)
theorem good_spec (l : List Int) (wide : Bool) (hl : Bytes l) : fcs_Good.f l wide = some (goodv l wide) := by
 unfold fcs_Good.f goodv
 simp only [size_nat, all_spec, more_all l wide hl, Option.bind_some]
 by_cases h : sizeN wide ≤ l.length
 ·have h' : (l.length : Int) ≥ (sizeN wide : Int) := by omega
  simp only [h, h', decide_true, Bool.true_and, if_true]
  have e : ∀ a b : Nat, ((a : Int) == (b : Int)) = decide (a = b) := fun a b => by
   rw [Bool.eq_iff_iff, beq_iff_eq, decide_eq_true_iff]
   omega
  cases wide
  ·simp only [Bool.false_eq_true, if_false]
   exact congrArg some (e _ 61624)
  ·simp only [if_true]
   exact congrArg some (e _ 3736805603)
 ·have h' : ¬ (l.length : Int) ≥ (sizeN wide : Int) := by omega
  simp only [h, h', decide_false, Bool.false_and, if_false]
  cases wide <;> rfl
def openv (l : List Int) (wide : Bool) : List Int × Bool := if goodv l wide = true then (l.take (l.length - sizeN wide), true) else ([], false)
theorem open_spec (l : List Int) (wide : Bool) (hl : Bytes l) (hn : l.length ≤ 100000) : fcs_Open.f l wide = some (openv l wide) := by
 unfold fcs_Open.f openv
 rw [good_spec l wide hl, Option.bind_some]
 have h4 := sizeN_le wide
 by_cases h : goodv l wide = true
 ·have hs : sizeN wide ≤ l.length := by
   unfold goodv at h
   simp only [Bool.and_eq_true, decide_eq_true_eq] at h
   exact h.1
  rw [if_pos h, if_pos h, size_nat, Option.bind_some, w64 (by omega) (by omega), if_pos (by omega), if_pos (by omega), show (((l.length : Int) - (sizeN wide : Int)).toNat) = l.length - sizeN wide by omega]
  unfold slices_Clone_byte_byte.f
  rw [if_pos (by rw [List.length_take]; omega)]
  rfl
 ·rw [if_neg h, if_neg h]
/-- What is good is sealed, and what is sealed is good. -/
theorem goodv_iff (l : List Int) (wide : Bool) (hl : Bytes l) (hs : sizeN wide ≤ l.length) : goodv l wide = true ↔ sealv (l.take (l.length - sizeN wide)) wide = l := by
 have e := List.take_append_drop (l.length - sizeN wide) l
 have h := good_iff (l.take (l.length - sizeN wide)) (l.drop (l.length - sizeN wide)) wide (hl.take _) (hl.drop _) (by rw [List.length_drop]; omega)
 rw [e] at h
 unfold goodv
 simp only [hs, decide_true, Bool.true_and, decide_eq_true_eq]
 rw [h]
 unfold sealv
 constructor
 ·intro h1
  rw [← h1, e]
 ·intro h1
  have h2 : l.take (l.length - sizeN wide) ++ leb (ofN (l.take (l.length - sizeN wide)) wide : Int) (sizeN wide) = l.take (l.length - sizeN wide) ++ l.drop (l.length - sizeN wide) := by rw [h1, e]
  exact (List.append_cancel_left h2).symm
theorem good_sealv (l : List Int) (wide : Bool) (hl : Bytes l) : goodv (sealv l wide) wide = true := by
 rw [goodv_iff _ _ (sealv_bytes hl wide) (by rw [sealv_length]; omega), sealv_length, Nat.add_sub_cancel]
 congr 1
 unfold sealv
 simp
theorem open_sealv (l : List Int) (wide : Bool) (hl : Bytes l) : openv (sealv l wide) wide = (l, true) := by
 unfold openv
 rw [if_pos (good_sealv l wide hl), sealv_length, Nat.add_sub_cancel]
 unfold sealv
 simp
theorem unst_bytes (m : Int) : ∀ (l : List Int) (b : Bool) (acc : List Int), Bytes l → Bytes acc → Bytes (unst m l b acc).1
 | [], b, acc, _, ha => by
  unfold unst
  split
  ·exact Bytes.nil
  ·exact ha
 | c :: t, b, acc, hl, ha => by
  have hc := hl c (by simp)
  have ht : Bytes t := fun x hx => hl x (by simp [hx])
  unfold unst
  split
  ·exact Bytes.nil
  ·split
   ·exact unst_bytes m t b acc ht ha
   ·split
    ·exact unst_bytes m t false _ ht (ha.append (Bytes.cons (turnv_range hc) Bytes.nil))
    ·split
     ·exact unst_bytes m t true acc ht ha
     ·exact unst_bytes m t b _ ht (ha.append (Bytes.cons hc Bytes.nil))
theorem unstuffv_bytes {l : List Int} (h : Bytes l) (m : Int) : Bytes (unstuffv l m).1 := unst_bytes m l false [] h Bytes.nil
theorem size_df (wide : Bool) : DF.size wide = (sizeN wide : Int) := by cases wide <;> rfl
/-- What a frame as it stands is taken for. -/
def closev (m : Int) (wide : Bool) (s : DF) : DF :=
 if (unstuffv s.held m).2 = true then
  if (unstuffv s.held m).1.length = 0 then s
  else if ((unstuffv s.held m).1.length : Int) < DF.size wide + 2 then { s with ts := wrap64 (s.ts + 1) }
  else if ((unstuffv s.held m).1.length : Int) > DF.size wide + 65535 then { s with tl := wrap64 (s.tl + 1) }
  else if (openv (unstuffv s.held m).1 wide).2 = true then { s with tg := wrap64 (s.tg + 1), done := s.done ++ [(openv (unstuffv s.held m).1 wide).1] }
  else { s with tw := wrap64 (s.tw + 1) }
 else { s with ta := wrap64 (s.ta + 1) }
theorem close_spec (m : Int) (wide : Bool) (s : DF) (h0 : 0 ≤ m) (h1 : m < 4294967296) (hb : Bytes s.held) (hl : s.held.length < 70368744177664) (hd : s.done.length < 5864062014805) : Ev (fun k => DF.close k m wide s) (closev m wide s) := by
 unfold DF.close
 refine Ev.bind (unstuff_spec s.held m hb h0 h1 hl) ?_
 have hz := DF.size_le wide
 have hu := unstuffv_bytes hb m
 unfold closev
 by_cases a : (unstuffv s.held m).2 = true
 ·simp only [a, if_true]
  by_cases b : (unstuffv s.held m).1.length = 0
  ·simp only [b, if_true]
   exact Ev.now _
  ·simp only [b, if_false]
   by_cases c : ((unstuffv s.held m).1.length : Int) < DF.size wide + 2
   ·simp only [c, if_true]
    exact Ev.now _
   ·simp only [c, if_false]
    by_cases d : ((unstuffv s.held m).1.length : Int) > DF.size wide + 65535
    ·simp only [d, if_true]
     exact Ev.now _
    ·simp only [d, if_false]
     rw [open_spec _ wide hu (by omega)]
     simp only [Option.bind_some]
     by_cases e : (openv (unstuffv s.held m).1 wide).2 = true
     ·simp only [e, if_true, hd]
      exact Ev.now _
     ·simp only [e, if_false]
      exact Ev.now _
 ·simp only [a, if_false]
  exact Ev.now _
def stepv (m : Int) (wide : Bool) (s : DF) (c : Int) : DF :=
 if s.inn = true then if c = 126 then { closev m wide s with held := [] } else { s with held := s.held ++ [c] }
 else if c = 126 then { s with inn := true } else s
def feedv (m : Int) (wide : Bool) (s : DF) (l : List Int) : DF := l.foldl (stepv m wide) s
theorem feedv_nil (m : Int) (wide : Bool) (s : DF) : feedv m wide s [] = s := rfl
theorem feedv_cons (m : Int) (wide : Bool) (s : DF) (c : Int) (l : List Int) : feedv m wide s (c :: l) = feedv m wide (stepv m wide s c) l := rfl
theorem feedv_append (m : Int) (wide : Bool) (s : DF) (a b : List Int) : feedv m wide s (a ++ b) = feedv m wide (feedv m wide s a) b := by unfold feedv; rw [List.foldl_append]
theorem closev_held (m : Int) (wide : Bool) (s : DF) : (closev m wide s).held = s.held ∧ (closev m wide s).inn = s.inn ∧ (closev m wide s).done.length ≤ s.done.length + 1 := by
 unfold closev
 repeat' split
 all_goals exact ⟨rfl, rfl, by first | (simp; done) | omega⟩
theorem stepv_held (m : Int) (wide : Bool) (s : DF) (c : Int) : (stepv m wide s c).held.length ≤ s.held.length + 1 ∧ (stepv m wide s c).done.length ≤ s.done.length + 1 := by
 have h := closev_held m wide s
 unfold stepv
 repeat' split
 ·exact ⟨by simp, h.2.2⟩
 ·exact ⟨by simp, by simp⟩
 ·exact ⟨by simp, by simp⟩
 ·exact ⟨by omega, by omega⟩
theorem stepv_bytes {m : Int} {wide : Bool} {s : DF} {c : Int} (hs : Bytes s.held) (hc : 0 ≤ c ∧ c < 256) : Bytes (stepv m wide s c).held := by
 unfold stepv
 repeat' split
 ·exact Bytes.nil
 ·exact hs.append (Bytes.cons hc Bytes.nil)
 ·exact hs
 ·exact hs
theorem step_spec (m : Int) (wide : Bool) (s : DF) (c : Int) (h0 : 0 ≤ m) (h1 : m < 4294967296) (hb : Bytes s.held) (hl : s.held.length < 70368744177664) (hd : s.done.length < 5864062014805) : Ev (fun k => DF.step k m wide s c) (stepv m wide s c) := by
 unfold DF.step stepv
 by_cases a : s.inn = true
 ·simp only [a, if_true]
  by_cases b : c = 126
  ·simp only [b, if_true]
   exact Ev.bind (close_spec m wide s h0 h1 hb hl hd) (Ev.now _)
  ·simp only [b, if_false, show s.held.length < 140737488355328 by omega, if_true]
   exact Ev.now _
 ·simp only [a, if_false]
  by_cases b : c = 126
  ·simp only [b, if_true]
   exact Ev.now _
  ·simp only [b, if_false]
   exact Ev.now _
theorem feed_spec (m : Int) (wide : Bool) (h0 : 0 ≤ m) (h1 : m < 4294967296) : ∀ (l : List Int) (s : DF), Bytes l → Bytes s.held → s.held.length + l.length ≤ 1000000000 → s.done.length + l.length ≤ 1000000000 → Ev (fun k => DF.feed k m wide s l) (feedv m wide s l)
 | [], s, _, _, _, _ => Ev.now _
 | c :: l, s, hl, hs, h2, h3 => by
  have hc := hl c (by simp)
  have ht : Bytes l := fun x hx => hl x (by simp [hx])
  rw [List.length_cons] at h2 h3
  have h4 := stepv_held m wide s c
  exact Ev.bind (step_spec m wide s c h0 h1 hs (by omega) (by omega)) (feed_spec m wide h0 h1 l _ ht (stepv_bytes hs hc) (by omega) (by omega))
def segs : Bool → List Int → List Int → List (List Int)
 | _, _, [] => []
 | true, h, c :: l => if c = 126 then h :: segs true [] l else segs true (h ++ [c]) l
 | false, h, c :: l => if c = 126 then segs true h l else segs false h l
/-- What is counted, and done. -/
def norm (s : DF) : DF := { s with inn := false, held := [] }
def tally (m : Int) (wide : Bool) (s : DF) (f : List Int) : DF := norm (closev m wide { s with held := f })
theorem tally_norm (m : Int) (wide : Bool) (s : DF) : norm { closev m wide s with held := [] } = tally m wide (norm s) s.held := by
 unfold tally norm closev
 simp only []
 repeat' split
 all_goals rfl
theorem feedv_segs (m : Int) (wide : Bool) : ∀ (l : List Int) (s : DF), (s.inn = false → s.held = []) → norm (feedv m wide s l) = (segs s.inn s.held l).foldl (tally m wide) (norm s)
 | [], s, _ => by
  unfold segs
  rfl
 | c :: l, s, hs => by
  rw [feedv_cons]
  cases hi : s.inn with
  | true =>
   by_cases b : c = 126
   ·have e : stepv m wide s c = { closev m wide s with held := [] } := by unfold stepv; rw [if_pos hi, if_pos b]
    have hin : (stepv m wide s c).inn = true := by rw [e]; exact (closev_held m wide s).2.1.trans hi
    rw [feedv_segs m wide l (stepv m wide s c) (fun h => by rw [hin] at h; cases h), hin, segs, if_pos b, List.foldl_cons, ← tally_norm, e]
   ·have e : stepv m wide s c = { s with held := s.held ++ [c] } := by unfold stepv; rw [if_pos hi, if_neg b]
    have hin : (stepv m wide s c).inn = true := by rw [e]; exact hi
    rw [feedv_segs m wide l (stepv m wide s c) (fun h => by rw [hin] at h; cases h), hin, segs, if_neg b, e]
    rfl
  | false =>
   have hh := hs hi
   by_cases b : c = 126
   ·have e : stepv m wide s c = { s with inn := true } := by unfold stepv; rw [if_neg (by rw [hi]; decide), if_pos b]
    rw [feedv_segs m wide l (stepv m wide s c) (fun h => by rw [e] at h; cases h), e, segs, if_pos b]
    rfl
   ·have e : stepv m wide s c = s := by unfold stepv; rw [if_neg (by rw [hi]; decide), if_neg b]
    rw [e, feedv_segs m wide l s hs, hi, segs, if_neg b]
theorem rdL_get (l : List (List Int)) (i : Nat) (h : i < l.length) : rd_L2 l (i : Int) = l[i] := by
 unfold rd_L2
 rw [Int.toNat_natCast, List.getD_eq_getElem?_getD, List.getElem?_eq_getElem h]
 rfl
/-- A body's frame, without the flag ahead. -/
def framev (m : Int) (wide : Bool) (x : List Int) : List Int := stuffv (sealv x wide) m ++ [126]
theorem framev_len (m : Int) (wide : Bool) (x : List Int) (h : x.length ≤ 70000) : (framev m wide x).length ≤ 140009 := by
 unfold framev
 have h1 := (stuffv_len (sealv x wide) m).2
 have h2 := sizeN_le wide
 rw [sealv_length] at h1
 rw [List.length_append, List.length_singleton]
 omega
/-- The frames of a row, from some bytes on. -/
def rowgo (m : Int) (wide : Bool) : List Int → List (List Int) → List Int × Int
 | acc, [] => (acc, 0)
 | acc, x :: t => if (x.length : Int) < 2 then ([], 1) else if (x.length : Int) > 65535 then ([], 4) else rowgo m wide (acc ++ framev m wide x) t
def rowv (m : Int) (wide : Bool) (l : List (List Int)) : List Int × Int := rowgo m wide [126] l
theorem row_loop (m : Int) (wide : Bool) (h0 : 0 ≤ m) (h1 : m < 4294967296) (l : List (List Int)) (hb : ∀ x ∈ l, Bytes x) (hn : l.length ≤ 50) (hx : ∀ x ∈ l, x.length ≤ 70000) : ∀ (d i : Nat) (acc : List Int), l.length - i = d → i ≤ l.length → acc.length ≤ 1 + 150000 * i →
  Ev (fun k => frame_Row.l0 k m wide acc l (l.length : Int) (i : Int)) (rowgo m wide acc (l.drop i)) := by
 intro d
 induction d with
 | zero =>
  intro i acc hd hi ha
  rw [List.drop_eq_nil_of_le (by omega)]
  refine Ev.step (f := fun _ => some (acc, 0)) (fun k => ?_) (Ev.now _)
  rw [frame_Row.l0, if_neg (by omega)]
 | succ d ih =>
  intro i acc hd hi ha
  have hlt : i < l.length := by omega
  have hbi := hb l[i] (List.getElem_mem hlt)
  have hxi := hx l[i] (List.getElem_mem hlt)
  rw [List.drop_eq_getElem_cons hlt, rowgo]
  by_cases a : (l[i].length : Int) < 2
  ·rw [if_pos a]
   refine Ev.step (f := fun _ => some ([], 1)) (fun k => ?_) (Ev.now _)
   rw [frame_Row.l0, if_pos (by omega), if_pos (by omega), if_pos (by omega), rdL_get l i hlt, if_pos a]
  ·rw [if_neg a]
   by_cases b : (l[i].length : Int) > 65535
   ·rw [if_pos b]
    refine Ev.step (f := fun _ => some ([], 4)) (fun k => ?_) (Ev.now _)
    rw [frame_Row.l0, if_pos (by omega), if_pos (by omega), if_pos (by omega), rdL_get l i hlt, if_neg a, if_pos b]
   ·rw [if_neg b]
    have hz := sizeN_le wide
    have hfl := framev_len m wide l[i] hxi
    have hlen : (sealv l[i] wide).length < 70368744177664 := by rw [sealv_length]; omega
    refine Ev.step (f := fun k => (fcs_Seal.f k l[i] wide).bind fun t => (stuff_Stuff.f t m).bind fun u => (slices_Concat_byte_byte.f [acc, u, [126]]).bind fun z => frame_Row.l0 k m wide z l (l.length : Int) (wrap64 ((i : Int) + 1))) (fun k => ?_) ?_
    ·rw [frame_Row.l0, if_pos (by omega), if_pos (by omega), if_pos (by omega), rdL_get l i hlt, if_neg a, if_neg b]
    ·refine Ev.bind (seal_spec l[i] wide hbi (by omega)) ?_
     have e : slices_Concat_byte_byte.f [acc, stuffv (sealv l[i] wide) m, [126]] = some (acc ++ framev m wide l[i]) := by
      have e1 : [acc, stuffv (sealv l[i] wide) m, [126]].flatten = acc ++ framev m wide l[i] := by simp [framev]
      unfold slices_Concat_byte_byte.f
      rw [e1, if_pos (by rw [List.length_append]; omega)]
     have next := ih (i + 1) (acc ++ framev m wide l[i]) (by omega) (by omega) (by rw [List.length_append]; omega)
     have e2 : wrap64 ((i : Int) + 1) = ((i + 1 : Nat) : Int) := w64 (by omega) (by omega)
     refine Ev.congr (f := fun k => frame_Row.l0 k m wide (acc ++ framev m wide l[i]) l (l.length : Int) ((i + 1 : Nat) : Int)) (fun k => ?_) next
     rw [stuff_spec _ m (sealv_bytes hbi wide) h0 h1 hlen, Option.bind_some, e, Option.bind_some, e2]
theorem row_spec (m : Int) (wide : Bool) (h0 : 0 ≤ m) (h1 : m < 4294967296) (l : List (List Int)) (hb : ∀ x ∈ l, Bytes x) (hn : l.length ≤ 50) (hx : ∀ x ∈ l, x.length ≤ 70000) : Ev (fun k => frame_Row.f k l m wide) (rowv m wide l) := row_loop m wide h0 h1 l hb hn hx l.length 0 [126] (by omega) (by omega) (by simp)
theorem put_spec_f (m : Int) (wide : Bool) (h0 : 0 ≤ m) (h1 : m < 4294967296) (x : List Int) (hb : Bytes x) (hx : x.length ≤ 70000) : Ev (fun k => frame_Put.f k x m wide) (rowv m wide [x]) := by
 have h := row_spec m wide h0 h1 [x] (fun y hy => by rw [List.mem_singleton.1 hy]; exact hb) (by simp) (fun y hy => by rw [List.mem_singleton.1 hy]; exact hx)
 generalize rowv m wide [x] = r at h ⊢
 obtain ⟨r1, r2⟩ := r
 unfold frame_Put.f
 exact Ev.bind h (Ev.now _)
theorem segs_in : ∀ (a h l : List Int), (∀ c ∈ a, c ≠ 126) → segs true h (a ++ 126 :: l) = (h ++ a) :: segs true [] l
 | [], h, l, _ => by rw [List.nil_append, segs, if_pos rfl, List.append_nil]
 | c :: a, h, l, hc => by
  rw [List.cons_append, segs, if_neg (hc c (by simp)), segs_in a (h ++ [c]) l (fun x hx => hc x (by simp [hx])), List.append_assoc, List.singleton_append]
theorem tally_nil (m : Int) (wide : Bool) (s : DF) : tally m wide s [] = norm s := by
 unfold tally closev unstuffv
 simp [unst, norm]
theorem unstuff_stuff (m : Int) (x : List Int) (hb : Bytes x) : unstuffv (stuffv x m) m = (x, true) := back_of m m x (stuffv x m) hb (keep_all m m x hb (fun _ h => h))
def good (s : DF) (x : List Int) : DF := { s with tg := wrap64 (s.tg + 1), done := s.done ++ [x] }
theorem tally_good (m : Int) (wide : Bool) (s : DF) (x : List Int) (hb : Bytes x) (h2 : 2 ≤ x.length) (h3 : x.length ≤ 65535) : tally m wide s (stuffv (sealv x wide) m) = norm (good s x) := by
 have hz := sizeN_le wide
 have hl := sealv_length x wide
 have hd := size_df wide
 have c1 : ¬ (sealv x wide).length = 0 := by omega
 have c2 : ¬ ((sealv x wide).length : Int) < DF.size wide + 2 := by omega
 have c3 : ¬ ((sealv x wide).length : Int) > DF.size wide + 65535 := by omega
 unfold tally closev
 simp only [unstuff_stuff m _ (sealv_bytes hb wide), open_sealv x wide hb, c1, c2, c3, if_true, if_false]
 rfl
theorem rowv_one (m : Int) (wide : Bool) (x : List Int) : rowv m wide [x] = if (x.length : Int) < 2 then ([], 1) else if (x.length : Int) > 65535 then ([], 4) else (126 :: framev m wide x, 0) := by
 unfold rowv
 rw [rowgo]
 rfl
/-- s with rows done ahead. -/
def ahead (d : List (List Int)) (s : DF) : DF := { s with done := d ++ s.done }
theorem closev_ahead (m : Int) (wide : Bool) (d : List (List Int)) (s : DF) : closev m wide (ahead d s) = ahead d (closev m wide s) := by
 unfold closev ahead
 simp only []
 repeat' split
 all_goals simp_all
theorem stepv_ahead (m : Int) (wide : Bool) (d : List (List Int)) (s : DF) (c : Int) : stepv m wide (ahead d s) c = ahead d (stepv m wide s c) := by
 unfold stepv
 have hi : (ahead d s).inn = s.inn := rfl
 have hh : (ahead d s).held = s.held := rfl
 rw [hi, hh]
 by_cases a : s.inn = true
 ·rw [if_pos a, if_pos a]
  by_cases b : c = 126
  ·rw [if_pos b, if_pos b, closev_ahead]
   rfl
  ·rw [if_neg b, if_neg b]
   rfl
 ·rw [if_neg a, if_neg a]
  by_cases b : c = 126
  ·rw [if_pos b, if_pos b]
   rfl
  ·rw [if_neg b, if_neg b]
theorem feedv_ahead (m : Int) (wide : Bool) (d : List (List Int)) : ∀ (l : List Int) (s : DF), feedv m wide (ahead d s) l = ahead d (feedv m wide s l)
 | [], _ => rfl
 | c :: l, s => by rw [feedv_cons, feedv_cons, stepv_ahead, feedv_ahead m wide d l]
theorem bare_ahead (s : DF) : s = ahead s.done { s with done := [] } := by
 unfold ahead
 simp
theorem feedv_held (m : Int) (wide : Bool) : ∀ (l : List Int) (s : DF), Bytes l → Bytes s.held → Bytes (feedv m wide s l).held ∧ (feedv m wide s l).held.length ≤ s.held.length + l.length ∧ (feedv m wide s l).done.length ≤ s.done.length + l.length
 | [], s, _, hs => ⟨hs, by simp [feedv_nil], by simp [feedv_nil]⟩
 | c :: l, s, hl, hs => by
  have hc := hl c (by simp)
  have ht : Bytes l := fun x hx => hl x (by simp [hx])
  have h := feedv_held m wide l (stepv m wide s c) ht (stepv_bytes hs hc)
  have h2 := stepv_held m wide s c
  rw [feedv_cons, List.length_cons]
  exact ⟨h.1, by omega, by omega⟩
theorem div_zero {n p : Int} (h0 : 0 ≤ n) (hp : 0 < p) : n / p = 0 ↔ n < p := by
 constructor
 ·intro h
  have h1 := Int.mul_ediv_add_emod n p
  have h2 := Int.emod_lt_of_pos n hp
  rw [h, Int.mul_zero] at h1
  omega
 ·intro h
  exact Int.ediv_eq_zero_of_lt h0 h
def fits (n : Int) (s : Int) : Bool := decide (1 ≤ s) && decide (s ≤ 8) && decide (n < 256 ^ s.toNat)
theorem fits_spec (n s : Int) (h0 : 0 ≤ n) (h1 : n < 18446744073709551616) : octet_Fits.f n s = some (fits n s) := by
 unfold octet_Fits.f fits
 by_cases a : 1 ≤ s
 ·rw [if_pos a]
  by_cases b : s ≤ 8
  ·rw [if_pos b]
   by_cases c : s = 8
   ·subst c
    rw [if_pos rfl]
    simp [pow256_8, h1]
   ·rw [if_neg c, w64 (by omega) (by omega), if_pos (by omega)]
    have hs : shr .u64 n (8 * s) = n / 256 ^ s.toNat := by
     unfold shr
     rw [Nat.min_eq_left (by simp [IntKind.bits]; omega), pow256_2, show (8 * s).toNat = 8 * s.toNat by omega]
    rw [hs]
    have hp : (0 : Int) < 256 ^ s.toNat := Int.pow_pos (by decide)
    have : (n / 256 ^ s.toNat == 0) = decide (n < 256 ^ s.toNat) := by
     rw [Bool.eq_iff_iff, beq_iff_eq, decide_eq_true_iff]
     exact div_zero h0 hp
    simp [this, a, b]
  ·rw [if_neg b]
   simp [b]
 ·rw [if_neg a]
  simp [a]
theorem rev_loop (x : List Int) (hm : x.length ≤ 4611686018427387904) (d : Nat) : ∀ (y : List Int) (i : Nat) (k : Nat), y.length = x.length → 2 * i ≤ x.length → x.length + 1 - 2 * i ≤ d → d < k →
  (∀ p, (hp : p < x.length) → (hq : p < y.length) → y[p] = if p < i ∨ x.length - i ≤ p then x[x.length - 1 - p]'(by omega) else x[p]) →
  slices_Reverse_byte_byte.l0 k y (i : Int) ((x.length : Int) - 1 - i) = some x.reverse := by
 induction d with
 | zero => intro y i k hl hi hd hk h; omega
 | succ d ih =>
  intro y i k hl hi hd hk h
  obtain ⟨k, rfl, hk⟩ := succ_of hk
  rw [slices_Reverse_byte_byte.l0]
  by_cases c : (i : Int) < (x.length : Int) - 1 - i
  ·rw [if_pos c, if_pos (by omega), if_pos (by omega), if_pos (by omega), if_pos (by omega)]
   rw [show ((x.length : Int) - 1 - (i : Int)) = ((x.length - 1 - i : Nat) : Int) by omega]
   rw [rd_get (a := y) (x.length - 1 - i) (by omega), rd_get (a := y) i (by omega), Int.toNat_natCast, Int.toNat_natCast]
   rw [w64 (by omega) (by omega), w64 (by omega) (by omega)]
   have := ih ((y.set i (y[x.length - 1 - i]'(by omega))).set (x.length - 1 - i) (y[i]'(by omega))) (i + 1) k (by simp [hl]) (by omega) (by omega) (by omega) (by
    intro p hp hq
    have hi1 := h i (by omega) (by omega)
    have hj1 := h (x.length - 1 - i) (by omega) (by omega)
    have hp1 := h p hp (by omega)
    simp only [List.getElem_set]
    by_cases e1 : x.length - 1 - i = p
    ·subst e1
     simp only [if_true]
     rw [hi1, if_neg (by omega), if_pos (by omega)]
     congr 1
     omega
    ·rw [if_neg e1]
     by_cases e2 : i = p
     ·subst e2
      simp only [if_true]
      rw [hj1, if_neg (by omega), if_pos (by omega)]
     ·rw [if_neg e2, hp1]
      by_cases e3 : p < i ∨ x.length - i ≤ p
      ·rw [if_pos e3, if_pos (by omega)]
      ·rw [if_neg e3, if_neg (by omega)])
   rw [show ((i : Int) + 1) = ((i + 1 : Nat) : Int) by omega, show (((x.length - 1 - i : Nat) : Int) - 1) = (x.length : Int) - 1 - ((i + 1 : Nat) : Int) by omega]
   exact this
  ·rw [if_neg c]
   congr 1
   apply List.ext_getElem
   ·simp [hl]
   ·intro p hp hq
    simp only [List.length_reverse] at hq
    rw [List.getElem_reverse, h p (by omega) hp]
    by_cases e : p < i ∨ x.length - i ≤ p
    ·rw [if_pos e]
    ·rw [if_neg e]
     congr 1
     omega
theorem reverse_spec (x : List Int) (hm : x.length ≤ 4611686018427387904) : Ev (fun k => slices_Reverse_byte_byte.f k x) x.reverse := by
 refine ⟨x.length + 3, fun k hk => ?_⟩
 show slices_Reverse_byte_byte.f k x = _
 unfold slices_Reverse_byte_byte.f
 rw [w64 (by omega) (by omega)]
 have := rev_loop x hm (x.length + 2) x 0 k rfl (by omega) (by omega) (by omega) (by
  intro p hp hq
  rw [if_neg (by omega)])
 simpa using this
theorem put_loop (n : Int) (h0 : 0 ≤ n) (s : Nat) (hs : s ≤ 8) (big : Bool) (d : Nat) : ∀ (i : Nat) (y : List Int), s - i = d → i ≤ s → y = leb n i ++ List.replicate (s - i) 0 →
  Ev (fun k => octet_Put.l0 k n big y (s : Int) (i : Int)) (putb n s big, true) := by
 induction d with
 | zero =>
  intro i y hd hi hy
  obtain rfl : i = s := by omega
  rw [Nat.sub_self, List.replicate_zero, List.append_nil] at hy
  subst hy
  refine Ev.step (f := fun k => if big = true then ((slices_Reverse_byte_byte.f k (leb n i)).bind fun t => (some (t, true))) else (some (leb n i, true))) (fun k => ?_) ?_
  ·rw [octet_Put.l0, if_neg (by omega)]
  ·unfold putb
   cases big
   ·exact Ev.const rfl
   ·simp only [if_true]
    exact Ev.bind (reverse_spec _ (by rw [leb_length]; omega)) (Ev.now _)
 | succ d ih =>
  intro i y hd hi hy
  have hlen : y.length = s := by
   subst hy
   simp [leb_length]
   omega
  refine Ev.step (f := fun k => octet_Put.l0 k n big (leb n (i + 1) ++ List.replicate (s - (i + 1)) 0) (s : Int) ((i + 1 : Nat) : Int)) (fun k => ?_) (ih (i + 1) _ (by omega) (by omega) rfl)
  rw [octet_Put.l0, if_pos (by omega), w64 (by omega) (by omega), if_pos (by omega), if_pos (by omega), if_pos (by omega), w64 (by omega) (by omega), Int.toNat_natCast]
  have hsh : shr .u64 n (8 * (i : Int)) = n / 256 ^ i := by
   unfold shr
   rw [Nat.min_eq_left (by simp [IntKind.bits]; omega), pow256_2, show (8 * (i : Int)).toNat = 8 * i by omega]
  have : y.set i (shr .u64 n (8 * (i : Int)) % 256) = leb n (i + 1) ++ List.replicate (s - (i + 1)) 0 := by
   rw [hsh, hy, leb_snoc, show s - i = (s - (i + 1)) + 1 by omega, List.replicate_succ, List.set_append_right _ _ (by rw [leb_length]; exact Nat.le_refl _)]
   simp [leb_length]
  rw [this]
  rfl
theorem put_spec (n s : Int) (big : Bool) (h0 : 0 ≤ n) (h1 : n < 18446744073709551616) : Ev (fun k => octet_Put.f k n s big) (if fits n s then (putb n s.toNat big, true) else ([], false)) := by
 unfold octet_Put.f
 rw [fits_spec n s h0 h1]
 simp only [Option.bind_some]
 by_cases c : fits n s = true
 ·simp only [c, if_true]
  have hf : 1 ≤ s ∧ s ≤ 8 := by
   unfold fits at c
   simp only [Bool.and_eq_true, decide_eq_true_eq] at c
   exact c.1
  simp only [show (0 : Int) ≤ s by omega, show s.toNat ≤ 281474976710656 by omega, if_true]
  have := put_loop n h0 s.toNat (by omega) big s.toNat 0 (List.replicate s.toNat 0) (by omega) (by omega) (by simp [leb])
  rw [show ((s.toNat : Nat) : Int) = s by omega] at this
  exact this
 ·simp only [c, if_false]
  exact Ev.const rfl
theorem or_step (v b : Int) (h0 : 0 ≤ v) (h1 : v < 72057594037927936) (hb : 0 ≤ b ∧ b < 256) : Go.bits .or .u64 (IntKind.u64.wrap (v * 256)) (IntKind.u64.wrap b) = v * 256 + b := by
 rw [wu64s (by omega) (by omega), wu64s (by omega) (by omega)]
 exact u64_or_low (i := 8) (by omega) (by omega) (by omega) (by omega) (by omega) (by omega)
theorem get_loop (x : List Int) (hb : Bytes x) (hl : x.length ≤ 8) (big : Bool) (d : Nat) : ∀ i : Nat, x.length - i = d → i ≤ x.length →
  Ev (fun k => octet_Get.l0 k x big (beval ((if big then x else x.reverse).take i)) (x.length : Int) (i : Int)) (getv x big, true) := by
 induction d with
 | zero =>
  intro i hd hi
  obtain rfl : i = x.length := by omega
  refine Ev.step (f := fun _ => some (getv x big, true)) (fun k => ?_) (Ev.now _)
  rw [octet_Get.l0, if_neg (by omega)]
  unfold getv
  cases big <;> simp [List.take_of_length_le]
 | succ d ih =>
  intro i hd hi
  refine Ev.step (f := fun k => octet_Get.l0 k x big (beval ((if big then x else x.reverse).take (i + 1))) (x.length : Int) ((i + 1 : Nat) : Int)) (fun k => ?_) (ih (i + 1) (by omega) (by omega))
  have hr : 0 ≤ beval ((if big then x else x.reverse).take i) ∧ beval ((if big then x else x.reverse).take i) < 72057594037927936 := by
   have hbb : Bytes ((if big then x else x.reverse).take i) := by
    cases big
    ·exact hb.reverse.take i
    ·exact hb.take i
   have := beval_range _ hbb
   have h2 := pow256_le (i := ((if big then x else x.reverse).take i).length) (j := 7) (by rw [List.length_take]; omega)
   rw [show (256 : Int) ^ 7 = 72057594037927936 from by decide] at h2
   exact ⟨this.1, Int.lt_of_lt_of_le this.2 h2⟩
  rw [octet_Get.l0, if_pos (by omega), w64 (x := (x.length : Int) - 1) (by omega) (by omega), w64 (x := (x.length : Int) - 1 - (i : Int)) (by omega) (by omega), if_pos (by omega), if_pos (by omega)]
  cases big
  ·simp only [Bool.false_eq_true, if_false] at hr ⊢
   rw [or_step _ _ hr.1 hr.2 (hb.at _), w64 (by omega) (by omega)]
   rw [List.take_succ_eq_append_getElem (by simp; omega), beval_snoc, List.getElem_reverse]
   rw [show ((x.length : Int) - 1 - (i : Int)) = ((x.length - 1 - i : Nat) : Int) by omega, rd_get (a := x) (x.length - 1 - i) (by omega)]
   rfl
  ·simp only [if_true] at hr ⊢
   rw [if_pos (by omega), if_pos (by omega), or_step _ _ hr.1 hr.2 (hb.at _), w64 (by omega) (by omega)]
   rw [List.take_succ_eq_append_getElem (by omega), beval_snoc, rd_get (a := x) i (by omega)]
   rfl
theorem get_spec (x : List Int) (hb : Bytes x) (big : Bool) : Ev (fun k => octet_Get.f k x big) (if 1 ≤ x.length ∧ x.length ≤ 8 then (getv x big, true) else (0, false)) := by
 unfold octet_Get.f
 by_cases a : (x.length : Int) < 1
 ·simp only [a, if_true]
  rw [if_neg (by omega)]
  refine Ev.step (f := fun _ => some (0, false)) (fun k => ?_) (Ev.now _)
  rw [octet_Get.j0, if_pos rfl]
 ·simp only [a, if_false]
  by_cases b : (x.length : Int) > 8
  ·rw [if_neg (by omega)]
   refine Ev.step (f := fun _ => some (0, false)) (fun k => ?_) (Ev.now _)
   rw [octet_Get.j0, if_pos (by simpa using b)]
  ·rw [if_pos (by omega)]
   refine Ev.step (f := fun k => octet_Get.l0 k x big 0 (x.length : Int) 0) (fun k => ?_) ?_
   ·rw [octet_Get.j0, if_neg (by simpa using b)]
   ·have := get_loop x hb (by omega) big x.length 0 (by omega) (by omega)
    simpa [beval] using this
/-- So many bytes at a place, as a number. -/
def numv (l : List Int) (a n : Nat) (big : Bool) : Int := getv ((l.take (a + n)).drop a) big
theorem num_len (l : List Int) (a n : Nat) (h : a + n ≤ l.length) : ((l.take (a + n)).drop a).length = n := by
 rw [List.length_drop, List.length_take]; omega
theorem numv_range (l : List Int) (hb : Bytes l) (a n : Nat) (big : Bool) (hn : n ≤ 4) (h : a + n ≤ l.length) : 0 ≤ numv l a n big ∧ numv l a n big < 4294967296 := by
 have h1 := getv_range ((l.take (a + n)).drop a) big ((hb.take _).drop _)
 rw [num_len l a n h] at h1
 have h2 : (256 : Int) ^ n ≤ 256 ^ 4 := pow256_le hn
 have h3 : (256 : Int) ^ 4 = 4294967296 := by decide
 rw [h3] at h2
 exact ⟨h1.1, Int.lt_of_lt_of_le h1.2 h2⟩
theorem num_spec (l : List Int) (hb : Bytes l) (a n : Nat) (big : Bool) (h1 : 1 ≤ n) (hn : n ≤ 4) (h : a + n ≤ l.length) : Ev (fun k => pcap_numbers.num k l big (a : Int) (n : Int)) (numv l a n big) := by
 have hr := numv_range l hb a n big hn h
 have hl := num_len l a n h
 have e1 : ((a : Int) + (n : Int)).toNat = a + n := by omega
 have e2 : ((a : Int)).toNat = a := by omega
 have hg := get_spec ((l.take (a + n)).drop a) ((hb.take _).drop _) big
 rw [if_pos (by rw [hl]; omega)] at hg
 unfold pcap_numbers.num
 rw [e1, e2]
 refine Ev.bind hg ?_
 refine Ev.const ?_
 show some (numv l a n big % 4294967296) = _
 rw [Int.emod_eq_of_lt hr.1 hr.2]
/-- What is cut out of l at a place, n bytes. -/
def cutv (l : List Int) (at_ n : Int) : List Int × Bool :=
 if 0 ≤ at_ ∧ 0 ≤ n ∧ at_ + n ≤ l.length then ((l.drop at_.toNat).take n.toNat, true) else ([], false)
theorem cut_spec (l : List Int) (at_ n : Int) (hl : l.length < 140737488355328) (ha : at_ ≤ 9223372036854775807) : octet_Cut.f l at_ n = some (cutv l at_ n) := by
 unfold octet_Cut.f cutv
 by_cases a : at_ < 0
 ·rw [if_pos a, if_neg (by omega)]
 ·rw [if_neg a]
  by_cases b : n < 0
  ·rw [if_pos b, if_neg (by omega)]
  ·rw [if_neg b]
   by_cases c : at_ > (l.length : Int)
   ·rw [if_pos c, if_neg (by omega)]
   ·rw [if_neg c, w64 (x := (l.length : Int) - at_) (by omega) (by omega)]
    by_cases d : n > (l.length : Int) - at_
    ·rw [if_pos d, if_neg (by omega)]
    ·rw [if_neg d, if_pos (by omega), w64 (by omega) (by omega), if_pos (by omega), if_pos (by omega), if_pos (by omega)]
     rw [clone_spec _ (by rw [List.length_drop, List.length_take]; omega)]
     simp only [Option.bind_some]
     rw [List.drop_take, show (at_ + n).toNat - at_.toNat = n.toNat by omega]
def nextv_P (l : List Int) (big : Bool) : Int × Int × Int × List Int × Int × Int :=
 if l.length < 16 then (0, 0, 0, [], 0, 2) else
 if numv l 8 4 big > 131072 then (0, 0, 0, [], 0, 4) else
 if (l.length : Int) < 16 + numv l 8 4 big then (0, 0, 0, [], 0, 2) else
 (numv l 0 4 big, numv l 4 4 big, numv l 12 4 big, (l.drop 16).take (numv l 8 4 big).toNat, 16 + numv l 8 4 big, 0)
theorem next_spec (l : List Int) (hb : Bytes l) (hm : l.length < 140737488355328) (big : Bool) : Ev (fun k => pcap_Next.f k l big) (nextv_P l big) := by
 unfold pcap_Next.f nextv_P
 by_cases h : l.length < 16
 ·rw [if_pos h]
  exact Ev.congr (fun k => if_pos (by omega)) (Ev.now _)
 ·rw [if_neg h]
  refine Ev.congr (fun k => if_neg (by omega)) ?_
  refine Ev.bind (num_spec l hb 0 4 big (by omega) (by omega) (by omega)) ?_
  refine Ev.bind (num_spec l hb 4 4 big (by omega) (by omega) (by omega)) ?_
  refine Ev.bind (num_spec l hb 8 4 big (by omega) (by omega) (by omega)) ?_
  refine Ev.bind (num_spec l hb 12 4 big (by omega) (by omega) (by omega)) ?_
  have hr := numv_range l hb 8 4 big (by omega) (by omega)
  generalize numv l 8 4 big = t at hr ⊢
  by_cases h2 : t > 131072
  ·rw [if_pos h2, if_pos h2]; exact Ev.now _
  ·rw [if_neg h2, if_neg h2]
   rw [cut_spec l 16 t hm (by omega), Option.bind_some]
   by_cases h3 : (l.length : Int) < 16 + t
   ·have hc : cutv l 16 t = ([], false) := if_neg (fun hh => by have := hh.2.2; omega)
    rw [if_pos h3, hc]
    exact Ev.now _
   ·have hc : cutv l 16 t = ((l.drop 16).take t.toNat, true) := if_pos ⟨by omega, hr.1, by omega⟩
    rw [if_neg h3, hc]
    exact Ev.now _
def orderv (l : List Int) : Bool × Bool × Int × Int × Bool :=
 if numv l 0 4 false = 2712847316 then (false, false, 0, 0, true) else if numv l 0 4 false = 2712812621 then (false, true, 0, 0, true) else
 if numv l 0 4 true = 2712847316 then (true, false, 0, 0, true) else if numv l 0 4 true = 2712812621 then (true, true, 0, 0, true) else (false, false, 0, 0, false)
theorem order_spec (l : List Int) (hb : Bytes l) (h : 4 ≤ l.length) : Ev (fun k => pcap_order.f k l) (orderv l) := by
 unfold pcap_order.f orderv
 refine Ev.bind (num_spec l hb 0 4 false (by omega) (by omega) (by omega)) ?_
 split
 ·exact Ev.now _
 ·split
  ·exact Ev.now _
  ·refine Ev.bind (num_spec l hb 0 4 true (by omega) (by omega) (by omega)) ?_
   split
   ·exact Ev.now _
   ·split
    ·exact Ev.now _
    ·exact Ev.now _
def headv_P (l : List Int) : Bool × Bool × Int × Int × Int :=
 if l.length < 4 then (false, false, 0, 0, 2) else
 if (orderv l).2.2.2.2 = false then (false, false, 0, 0, 3) else
 if l.length < 24 then (false, false, 0, 0, 2) else
 if numv (l.drop 4) 0 2 (orderv l).1 ≠ 2 then (false, false, 0, 0, 3) else
 ((orderv l).1, (orderv l).2.1, numv (l.drop 4) 12 4 (orderv l).1, numv (l.drop 4) 16 4 (orderv l).1, 0)
theorem head_spec (l : List Int) (hb : Bytes l) : Ev (fun k => pcap_Head.f k l) (headv_P l) := by
 unfold pcap_Head.f headv_P
 by_cases h : l.length < 4
 ·rw [if_pos h]
  exact Ev.congr (fun k => if_pos (by omega)) (Ev.now _)
 ·rw [if_neg h]
  refine Ev.congr (fun k => if_neg (by omega)) ?_
  refine Ev.bind (order_spec l hb (by omega)) ?_
  generalize orderv l = o
  by_cases h1 : o.2.2.2.2 = false
  ·rw [if_pos h1]
   exact Ev.congr (fun k => if_pos h1) (Ev.now _)
  ·rw [if_neg h1]
   refine Ev.congr (fun k => if_neg h1) ?_
   by_cases h2 : l.length < 24
   ·rw [if_pos h2]
    exact Ev.congr (fun k => if_pos (by omega)) (Ev.now _)
   ·rw [if_neg h2]
    refine Ev.congr (fun k => if_neg (by omega)) ?_
    have hd : (l.drop 4).length = l.length - 4 := List.length_drop ..
    have hb4 : Bytes (l.drop 4) := hb.drop _
    refine Ev.bind (num_spec (l.drop 4) hb4 0 2 o.1 (by omega) (by omega) (by omega)) ?_
    by_cases h3 : numv (l.drop 4) 0 2 o.1 ≠ 2
    ·rw [if_pos h3]
     exact Ev.congr (fun k => if_pos h3) (Ev.now _)
    ·rw [if_neg h3]
     refine Ev.congr (fun k => if_neg h3) ?_
     refine Ev.bind (num_spec (l.drop 4) hb4 2 2 o.1 (by omega) (by omega) (by omega)) ?_
     refine Ev.bind (num_spec (l.drop 4) hb4 4 4 o.1 (by omega) (by omega) (by omega)) ?_
     refine Ev.bind (num_spec (l.drop 4) hb4 8 4 o.1 (by omega) (by omega) (by omega)) ?_
     refine Ev.bind (num_spec (l.drop 4) hb4 12 4 o.1 (by omega) (by omega) (by omega)) ?_
     refine Ev.bind (num_spec (l.drop 4) hb4 16 4 o.1 (by omega) (by omega) (by omega)) ?_
     exact Ev.now _
theorem nextv_size_P (l : List Int) (hb : Bytes l) (big : Bool) (h : (nextv_P l big).2.2.2.2.2 = 0) : 16 ≤ (nextv_P l big).2.2.2.2.1 ∧ (nextv_P l big).2.2.2.2.1 ≤ l.length := by
 unfold nextv_P at h ⊢
 by_cases h1 : l.length < 16
 ·rw [if_pos h1] at h; exact absurd h (by decide)
 ·rw [if_neg h1] at h ⊢
  by_cases h2 : numv l 8 4 big > 131072
  ·rw [if_pos h2] at h; exact absurd h (by decide)
  ·rw [if_neg h2] at h ⊢
   by_cases h3 : (l.length : Int) < 16 + numv l 8 4 big
   ·rw [if_pos h3] at h; exact absurd h (by decide)
   ·rw [if_neg h3] at h ⊢
    have := numv_range l hb 8 4 big (by omega) (by omega)
    exact ⟨by show 16 ≤ 16 + numv l 8 4 big; omega, by show 16 + numv l 8 4 big ≤ _; omega⟩
/-- The records from a place on; where the first fault stands, and which it is. -/
def readw (big : Bool) : Nat → List Int → List S51 → Nat → List S51 × Int × Int
 | 0, _, acc, _ => (acc, 0, 0)
 | f + 1, l, acc, i =>
  if i < l.length then
   if (nextv_P (l.drop i) big).2.2.2.2.2 = 0 then
    readw big f l (acc ++ [⟨(nextv_P (l.drop i) big).1, (nextv_P (l.drop i) big).2.1, (nextv_P (l.drop i) big).2.2.1, (nextv_P (l.drop i) big).2.2.2.1⟩]) (i + (nextv_P (l.drop i) big).2.2.2.2.1.toNat)
   else (acc, (i : Int), (nextv_P (l.drop i) big).2.2.2.2.2)
  else (acc, 0, 0)
theorem read_loop (l : List Int) (hb : Bytes l) (hm : l.length ≤ 3518437208000) (big b2 : Bool) (s k0 : Int) (f : Nat) : ∀ (i : Nat) (acc : List S51), l.length < i + f → i ≤ l.length → acc.length ≤ i →
  Ev (fun k => pcap_Read.l0 k l acc i big b2 s k0) (big, b2, s, k0, readw big f l acc i) := by
 induction f with
 | zero =>
  intro i acc h1 h2 h3
  omega
 | succ f ih =>
  intro i acc h1 h2 h3
  unfold readw
  by_cases h : i < l.length
  ·rw [if_pos h]
   refine Ev.step (fun k => by rw [pcap_Read.l0, if_pos (by omega), if_pos (by omega), if_pos (by omega), Int.toNat_natCast]) ?_
   have hbd : Bytes (l.drop i) := hb.drop i
   have hld : (l.drop i).length = l.length - i := List.length_drop ..
   refine Ev.bind (next_spec (l.drop i) hbd (by omega) big) ?_
   have hsz := nextv_size_P (l.drop i) hbd big
   generalize nextv_P (l.drop i) big = r at hsz ⊢
   by_cases he : r.2.2.2.2.2 = 0
   ·rw [if_pos he]
    have := hsz he
    refine Ev.congr (fun k => if_pos he) ?_
    refine Ev.congr (fun k => if_pos (by omega)) ?_
    have hw : wrap64 ((i : Int) + r.2.2.2.2.1) = ((i + r.2.2.2.2.1.toNat : Nat) : Int) := by rw [w64 (by omega) (by omega)]; omega
    rw [hw]
    exact ih _ _ (by omega) (by omega) (by rw [List.length_append]; simp only [List.length_cons, List.length_nil]; omega)
   ·rw [if_neg he]
    exact Ev.congr (fun k => if_neg he) (Ev.now _)
  ·rw [if_neg h]
   refine Ev.step (fun k => by rw [pcap_Read.l0, if_neg (by omega)]) ?_
   exact Ev.now _
def readv_P (l : List Int) : Bool × Bool × Int × Int × List S51 × Int × Int :=
 if (headv_P l).2.2.2.2 = 0 then ((headv_P l).1, (headv_P l).2.1, (headv_P l).2.2.1, (headv_P l).2.2.2.1, readw (headv_P l).1 (l.length + 1) l [] 24)
 else (false, false, 0, 0, [], 0, (headv_P l).2.2.2.2)
theorem headv_long (l : List Int) (h : (headv_P l).2.2.2.2 = 0) : 24 ≤ l.length := by
 unfold headv_P at h
 by_cases h1 : l.length < 4
 ·rw [if_pos h1] at h; exact absurd h (by decide)
 ·rw [if_neg h1] at h
  by_cases h2 : (orderv l).2.2.2.2 = false
  ·rw [if_pos h2] at h; exact absurd h (by decide)
  ·rw [if_neg h2] at h
   by_cases h3 : l.length < 24
   ·rw [if_pos h3] at h; exact absurd h (by decide)
   ·omega
theorem read_spec_P (l : List Int) (hb : Bytes l) (hm : l.length ≤ 3518437208000) : Ev (fun k => pcap_Read.f k l) (readv_P l) := by
 unfold pcap_Read.f readv_P
 refine Ev.bind (head_spec l hb) ?_
 by_cases h : (headv_P l).2.2.2.2 = 0
 ·rw [if_pos h]
  refine Ev.congr (fun k => if_pos h) ?_
  have := headv_long l h
  exact read_loop l hb hm _ _ _ _ (l.length + 1) 24 [] (by omega) (by omega) (by simp)
 ·rw [if_neg h]
  exact Ev.congr (fun k => if_neg h) (Ev.now _)
theorem rput_loop (n : Int) (h0 : 0 ≤ n) (h1 : n < 18446744073709551616) (s : Nat) (hs : s ≤ 8) (big : Bool) (d : Nat) : ∀ (i : Nat), s - i = d → i ≤ s →
  Ev (fun k => umpireref02_Put.l0 k (n / 256 ^ i) (s : Int) big (putb n i big) (i : Int)) (putb n s big) := by
 induction d with
 | zero =>
  intro i hd hi
  obtain rfl : i = s := by omega
  refine Ev.step (f := fun _ => some (putb n i big)) (fun k => ?_) (Ev.now _)
  rw [umpireref02_Put.l0, if_neg (by omega)]
 | succ d ih =>
  intro i hd hi
  refine Ev.step (f := fun k => umpireref02_Put.l0 k (n / 256 ^ (i + 1)) (s : Int) big (putb n (i + 1) big) ((i + 1 : Nat) : Int)) (fun k => ?_) (ih (i + 1) (by omega) (by omega))
  have hq0 : 0 ≤ n / 256 ^ i := Int.ediv_nonneg h0 (Int.le_of_lt (Int.pow_pos (by decide)))
  have hq1 : n / 256 ^ i ≤ n := Int.ediv_le_self _ h0
  have hdv : IntKind.u64.wrap (Int.tdiv (n / 256 ^ i) 256) = n / 256 ^ (i + 1) := by
   rw [Int.tdiv_eq_ediv_of_nonneg hq0, Int.ediv_ediv_of_nonneg (Int.le_of_lt (Int.pow_pos (by decide))), ← Int.pow_succ, wu64s]
   ·exact Int.ediv_nonneg h0 (Int.le_of_lt (Int.pow_pos (by decide)))
   ·exact Int.lt_of_le_of_lt (Int.ediv_le_self _ h0) h1
  have hmd : Int.tmod (n / 256 ^ i) 256 % 256 = n / 256 ^ i % 256 := by
   rw [Int.tmod_eq_emod_of_nonneg hq0]
   omega
  have hl : (putb n i big).length = i := putb_length _ _ _
  rw [umpireref02_Put.l0, if_pos (by omega), hdv, hmd, w64 (by omega) (by omega)]
  cases big
  ·simp only [Bool.false_eq_true, if_false]
   rw [if_pos (by omega)]
   have : putb n i false ++ [n / 256 ^ i % 256] = putb n (i + 1) false := by
    unfold putb
    simp only [Bool.false_eq_true, if_false]
    rw [leb_snoc]
   rw [this]
   rfl
  ·simp only [if_true, Option.bind_some]
   rw [if_pos (by simp [hl]; omega)]
   have : [n / 256 ^ i % 256] ++ putb n i true = putb n (i + 1) true := by
    unfold putb
    simp only [if_true]
    rw [leb_snoc, List.reverse_append]
    rfl
   rw [this]
   rfl
theorem rput_spec (n : Int) (s : Nat) (big : Bool) (h0 : 0 ≤ n) (h1 : n < 18446744073709551616) (hs : s ≤ 8) : Ev (fun k => umpireref02_Put.f k n (s : Int) big) (putb n s big) := by
 have := rput_loop n h0 h1 s hs big s 0 (by omega) (by omega)
 have e : putb n 0 big = [] := by unfold putb; cases big <;> rfl
 rw [e] at this
 simp only [Int.pow_zero, Int.ediv_one] at this
 exact this
/-- Numbers, each of so many bytes, one behind another. -/
def laidb (l : List Int) (s : Nat) (big : Bool) : List Int := (l.map fun n => putb n s big).flatten
theorem laidb_length (l : List Int) (s : Nat) (big : Bool) : (laidb l s big).length = l.length * s := by
 unfold laidb
 induction l with
 | nil => simp
 | cons a l ih => rw [List.map_cons, List.flatten_cons, List.length_append, putb_length, ih, List.length_cons, Nat.add_mul]; omega
theorem laidb_next (l : List Int) (s : Nat) (big : Bool) (i : Nat) (hi : i < l.length) : laidb (l.take (i + 1)) s big = laidb (l.take i) s big ++ putb l[i] s big := by
 unfold laidb
 rw [List.take_succ_eq_append_getElem hi, List.map_append, List.flatten_append]
 simp
theorem laid_loop (big : Bool) (s : Nat) (hs1 : 1 ≤ s) (hs : s ≤ 4) (l : List Int) (hl : l.length ≤ 8) (hr : ∀ x ∈ l, 0 ≤ x ∧ x < 256 ^ s) (d : Nat) : ∀ (i : Nat), l.length - i = d → i ≤ l.length →
  Ev (fun k => pcap_laid.l0 k big s (laidb (l.take i) s big) l l.length i) (laidb l s big) := by
 induction d with
 | zero =>
  intro i hd hi
  obtain rfl : i = l.length := by omega
  refine Ev.step (fun k => by rw [pcap_laid.l0, if_neg (by omega)]) ?_
  rw [List.take_length]
  exact Ev.now _
 | succ d ih =>
  intro i hd hi
  have hlt : i < l.length := by omega
  have hx := hr l[i] (List.getElem_mem hlt)
  have hp : (256 : Int) ^ s ≤ 256 ^ 4 := pow256_le hs
  have h4 : (256 : Int) ^ 4 = 4294967296 := by decide
  rw [h4] at hp
  have e1 : IntKind.u64.wrap (rd l (i : Int)) = l[i] := by rw [rd_get i hlt]; exact wu64s hx.1 (by omega)
  have hw : wrap64 ((i : Int) + 1) = ((i + 1 : Nat) : Int) := by rw [w64 (by omega) (by omega)]; omega
  have hf : fits l[i] (s : Int) = true := by
   unfold fits
   simp only [Int.toNat_natCast, Bool.and_eq_true, decide_eq_true_eq]
   exact ⟨⟨by omega, by omega⟩, hx.2⟩
  have hps := put_spec l[i] (s : Int) big hx.1 (by omega)
  rw [hf, if_pos rfl, Int.toNat_natCast] at hps
  have hlen : (laidb (l.take i) s big).length + (putb l[i] s big).length < 140737488355328 := by
   rw [laidb_length, putb_length, List.length_take]
   have : min i l.length * s ≤ 8 * 4 := Nat.mul_le_mul (by omega) hs
   omega
  refine Ev.step (fun k => by rw [pcap_laid.l0, if_pos (by omega), if_pos (by omega), if_pos (by omega), e1]) ?_
  refine Ev.bind hps ?_
  refine Ev.congr (fun k => if_pos hlen) ?_
  have hg := ih (i + 1) (by omega) (by omega)
  rw [laidb_next l s big i hlt] at hg
  rw [hw]
  exact hg
theorem laid_spec (big : Bool) (s : Nat) (hs1 : 1 ≤ s) (hs : s ≤ 4) (l : List Int) (hl : l.length ≤ 8) (hr : ∀ x ∈ l, 0 ≤ x ∧ x < 256 ^ s) : Ev (fun k => pcap_laid.f k big s l) (laidb l s big) :=
 laid_loop big s hs1 hs l hl hr l.length 0 (by omega) (by omega)
def recb (big : Bool) (r : S51) : List Int := laidb [r.f0, r.f1, (r.f3.length : Int), r.f2] 4 big ++ r.f3
def markv (nano : Bool) : Int := if nano = true then 2712812621 else 2712847316
def headb (big nano : Bool) (snap link : Int) : List Int := laidb [markv nano] 4 big ++ (laidb [2, 4] 2 big ++ laidb [0, 0, snap, link] 4 big)
/-- Records behind what stands, or that one is too long. -/
def capv (big : Bool) : List Int → List S51 → List Int × Int
 | y, [] => (y, 0)
 | y, r :: l => if (r.f3.length : Int) > 131072 then ([], 4) else capv big (y ++ recb big r) l
/-- How many bytes records take. -/
def capn : List S51 → Nat
 | [] => 0
 | r :: l => 16 + r.f3.length + capn l
def Good (r : S51) : Prop := (0 ≤ r.f0 ∧ r.f0 < 4294967296) ∧ (0 ≤ r.f1 ∧ r.f1 < 4294967296) ∧ (0 ≤ r.f2 ∧ r.f2 < 4294967296)
theorem rdT_get (l : List S51) (i : Nat) (h : i < l.length) : rd_T51 l (i : Int) = l[i] := by
 unfold rd_T51
 rw [Int.toNat_natCast, List.getD_eq_getElem?_getD, List.getElem?_eq_getElem h]
 rfl
theorem p256_4 : (256 : Int) ^ 4 = 4294967296 := by decide
theorem capput_loop (big n : Bool) (s k0 : Int) (l : List S51) (hm : l.length ≤ 4611686018427387904) (hg : ∀ r ∈ l, Good r) (d : Nat) : ∀ (i : Nat) (y : List Int), l.length - i = d → i ≤ l.length → y.length + capn (l.drop i) < 140737488355328 →
  Ev (fun k => pcap_Put.l0 k y l l.length i big n s k0) (capv big y (l.drop i)) := by
 induction d with
 | zero =>
  intro i y hd hi hc
  obtain rfl : i = l.length := by omega
  refine Ev.step (fun k => by rw [pcap_Put.l0, if_neg (by omega)]) ?_
  rw [List.drop_length]
  exact Ev.now _
 | succ d ih =>
  intro i y hd hi hc
  have hlt : i < l.length := by omega
  have hdr : l.drop i = l[i] :: l.drop (i + 1) := List.drop_eq_getElem_cons hlt
  have hgr := hg l[i] (List.getElem_mem hlt)
  have e1 := rdT_get l i hlt
  have hw : wrap64 ((i : Int) + 1) = ((i + 1 : Nat) : Int) := by rw [w64 (by omega) (by omega)]; omega
  rw [hdr] at hc ⊢
  have ih2 := ih (i + 1)
  generalize l[i] = r at hgr e1 hc ⊢
  obtain ⟨g0, g1, g2⟩ := hgr
  refine Ev.step (fun k => by rw [pcap_Put.l0, if_pos (by omega), if_pos (by omega), if_pos (by omega), e1]) ?_
  unfold capn at hc
  unfold capv
  by_cases h : (r.f3.length : Int) > 131072
  ·rw [if_pos h]
   exact Ev.congr (fun k => if_pos h) (Ev.now _)
  ·rw [if_neg h]
   refine Ev.congr (fun k => if_neg h) ?_
   have hmod : (r.f3.length : Int) % 4294967296 = r.f3.length := Int.emod_eq_of_lt (by omega) (by omega)
   rw [hmod]
   refine Ev.bind (laid_spec big 4 (by omega) (by omega) [r.f0, r.f1, (r.f3.length : Int), r.f2] (by simp) (by
    intro x hx
    rw [p256_4]
    simp only [List.mem_cons, List.not_mem_nil, or_false] at hx
    rcases hx with rfl | rfl | rfl | rfl <;> omega)) ?_
   have hl := laidb_length [r.f0, r.f1, (r.f3.length : Int), r.f2] 4 big
   simp only [List.length_cons, List.length_nil] at hl
   unfold recb
   generalize laidb [r.f0, r.f1, (r.f3.length : Int), r.f2] 4 big = z at hl ⊢
   refine Ev.congr (fun k => if_pos (by omega)) ?_
   refine Ev.congr (fun k => Option.bind_some ..) ?_
   refine Ev.congr (fun k => if_pos (by rw [List.length_append]; omega)) ?_
   rw [hw, List.append_assoc]
   exact ih2 _ (by omega) (by omega) (by rw [List.length_append, List.length_append]; omega)
theorem headb_length (big nano : Bool) (s k0 : Int) : (headb big nano s k0).length = 24 := by
 unfold headb
 rw [List.length_append, List.length_append, laidb_length, laidb_length, laidb_length]
 rfl
theorem markv_range (nano : Bool) : 0 ≤ markv nano ∧ markv nano < 4294967296 := by cases nano <;> decide
theorem capput_spec (big nano : Bool) (s k0 : Int) (l : List S51) (hm : l.length ≤ 4611686018427387904) (hg : ∀ r ∈ l, Good r) (hs : 0 ≤ s ∧ s < 4294967296) (hk : 0 ≤ k0 ∧ k0 < 4294967296) (hc : capn l ≤ 140000000) :
  Ev (fun k => pcap_Put.f k big nano s k0 l) (capv big (headb big nano s k0) l) := by
 have hh := headb_length big nano s k0
 have hloop := capput_loop big nano s k0 l hm hg l.length 0 (headb big nano s k0) (by omega) (by omega) (by rw [List.drop_zero]; omega)
 rw [List.drop_zero] at hloop
 have hj : Ev (fun k => pcap_Put.j0 k l (markv nano) big nano s k0) (capv big (headb big nano s k0) l) := by
  have hmk := markv_range nano
  refine Ev.step (fun k => by rw [pcap_Put.j0]) ?_
  refine Ev.bind (laid_spec big 4 (by omega) (by omega) [markv nano] (by simp) (by
   intro x hx
   rw [p256_4]
   simp only [List.mem_cons, List.not_mem_nil, or_false] at hx
   rw [hx]; exact hmk)) ?_
  refine Ev.bind (laid_spec big 2 (by omega) (by omega) [2, 4] (by simp) (by
   intro x hx
   simp only [List.mem_cons, List.not_mem_nil, or_false] at hx
   rcases hx with rfl | rfl <;> decide)) ?_
  refine Ev.bind (laid_spec big 4 (by omega) (by omega) [0, 0, s, k0] (by simp) (by
   intro x hx
   rw [p256_4]
   simp only [List.mem_cons, List.not_mem_nil, or_false] at hx
   rcases hx with rfl | rfl | rfl | rfl <;> omega)) ?_
  have hcat : slices_Concat_byte_byte.f [laidb [markv nano] 4 big, laidb [2, 4] 2 big, laidb [0, 0, s, k0] 4 big] = some (headb big nano s k0) := by
   have he : [laidb [markv nano] 4 big, laidb [2, 4] 2 big, laidb [0, 0, s, k0] 4 big].flatten = headb big nano s k0 := by
    unfold headb
    simp
   unfold slices_Concat_byte_byte.f
   rw [he, if_pos (by rw [hh]; omega)]
  refine Ev.congr (fun k => by rw [hcat, Option.bind_some]) ?_
  exact hloop
 unfold pcap_Put.f
 cases nano with
 | false => exact Ev.congr (fun k => if_neg (by decide)) hj
 | true => exact Ev.congr (fun k => if_pos rfl) hj
theorem numv_at (p x q : List Int) (big : Bool) : numv (p ++ x ++ q) p.length x.length big = getv x big := by
 unfold numv
 rw [show p.length + x.length = (p ++ x).length from (List.length_append).symm, List.take_left, List.drop_left]
theorem numv_at' {l : List Int} {a n : Nat} (p x q : List Int) (big : Bool) (hl : l = p ++ x ++ q) (ha : a = p.length) (hn : n = x.length) : numv l a n big = getv x big := by
 subst hl ha hn
 exact numv_at p x q big
theorem numv_take (L : List Int) (m a n : Nat) (big : Bool) (h : a + n ≤ m) : numv (L.take m) a n big = numv L a n big := by
 unfold numv
 rw [List.take_take, Nat.min_eq_left h]
theorem getv_put4 (n : Int) (big : Bool) (h0 : 0 ≤ n) (h1 : n < 4294967296) : getv (putb n 4 big) big = n := getv_putb n 4 big h0 (by rw [p256_4]; exact h1)
def Fine (r : S51) : Prop := Q.Good r ∧ (r.f3.length : Int) ≤ 131072
theorem recb_eq (big : Bool) (r : S51) : recb big r = putb r.f0 4 big ++ (putb r.f1 4 big ++ (putb (r.f3.length : Int) 4 big ++ (putb r.f2 4 big ++ r.f3))) := by
 unfold recb laidb
 simp
theorem recb_length (big : Bool) (r : S51) : (recb big r).length = 16 + r.f3.length := by
 unfold recb
 rw [List.length_append, laidb_length]
 rfl
theorem rec_num (big : Bool) (r : S51) (q : List Int) (h : Fine r) :
  numv (recb big r ++ q) 0 4 big = r.f0 ∧ numv (recb big r ++ q) 4 4 big = r.f1 ∧ numv (recb big r ++ q) 8 4 big = r.f3.length ∧ numv (recb big r ++ q) 12 4 big = r.f2 := by
 obtain ⟨⟨g0, g1, g2⟩, hl⟩ := h
 rw [recb_eq]
 refine ⟨?_, ?_, ?_, ?_⟩
 ·refine (numv_at' [] (putb r.f0 4 big) (putb r.f1 4 big ++ (putb (r.f3.length : Int) 4 big ++ (putb r.f2 4 big ++ r.f3)) ++ q) big (by simp) rfl (putb_length ..).symm).trans ?_
  exact getv_put4 _ _ g0.1 g0.2
 ·refine (numv_at' (putb r.f0 4 big) (putb r.f1 4 big) (putb (r.f3.length : Int) 4 big ++ (putb r.f2 4 big ++ r.f3) ++ q) big (by simp) (putb_length ..).symm (putb_length ..).symm).trans ?_
  exact getv_put4 _ _ g1.1 g1.2
 ·refine (numv_at' (putb r.f0 4 big ++ putb r.f1 4 big) (putb (r.f3.length : Int) 4 big) (putb r.f2 4 big ++ r.f3 ++ q) big (by simp) (by rw [List.length_append, putb_length, putb_length]) (putb_length ..).symm).trans ?_
  exact getv_put4 _ _ (by omega) (by omega)
 ·refine (numv_at' (putb r.f0 4 big ++ putb r.f1 4 big ++ putb (r.f3.length : Int) 4 big) (putb r.f2 4 big) (r.f3 ++ q) big (by simp) (by rw [List.length_append, List.length_append, putb_length, putb_length, putb_length]) (putb_length ..).symm).trans ?_
  exact getv_put4 _ _ g2.1 g2.2
theorem nextv_rec (big : Bool) (r : S51) (q : List Int) (h : Fine r) : nextv_P (recb big r ++ q) big = (r.f0, r.f1, r.f2, r.f3, 16 + (r.f3.length : Int), 0) := by
 obtain ⟨e0, e1, e2, e3⟩ := rec_num big r q h
 have hl := recb_length big r
 unfold nextv_P
 rw [e0, e1, e2, e3, if_neg (by rw [List.length_append]; omega), if_neg (by have := h.2; omega), if_neg (by rw [List.length_append]; omega)]
 have hd : ((recb big r ++ q).drop 16).take (r.f3.length : Int).toNat = r.f3 := by
  rw [Int.toNat_natCast]
  unfold recb
  rw [List.append_assoc, List.drop_left' (by rw [laidb_length]; rfl), List.take_left]
 rw [hd]
theorem headb_eq (big nano : Bool) (s k0 : Int) : headb big nano s k0 = putb (markv nano) 4 big ++ (putb 2 2 big ++ (putb 4 2 big ++ (putb 0 4 big ++ (putb 0 4 big ++ (putb s 4 big ++ putb k0 4 big))))) := by
 unfold headb laidb
 simp
theorem head_num (big nano : Bool) (s k0 : Int) (q : List Int) (b2 : Bool) : numv (headb big nano s k0 ++ q) 0 4 b2 = getv (putb (markv nano) 4 big) b2 := by
 rw [headb_eq]
 exact numv_at' [] (putb (markv nano) 4 big) (putb 2 2 big ++ (putb 4 2 big ++ (putb 0 4 big ++ (putb 0 4 big ++ (putb s 4 big ++ putb k0 4 big)))) ++ q) b2 (by simp) rfl (putb_length ..).symm
theorem orderv_head (big nano : Bool) (s k0 : Int) (q : List Int) (n : Nat) (h : 4 ≤ n) : orderv ((headb big nano s k0 ++ q).take n) = (big, nano, 0, 0, true) := by
 unfold orderv
 rw [numv_take _ _ _ _ _ (by omega), numv_take _ _ _ _ _ (by omega), head_num, head_num]
 cases big <;> cases nano <;> decide
theorem headv_whole (big nano : Bool) (s k0 : Int) (hs : 0 ≤ s ∧ s < 4294967296) (hk : 0 ≤ k0 ∧ k0 < 4294967296) (q : List Int) (n : Nat) (hn : n ≤ (headb big nano s k0 ++ q).length) (h : 24 ≤ n) : headv_P ((headb big nano s k0 ++ q).take n) = (big, nano, s, k0, 0) := by
 have hl : ((headb big nano s k0 ++ q).take n).length = n := by rw [List.length_take]; omega
 have hd : ((headb big nano s k0 ++ q).take n).drop 4 = (putb 2 2 big ++ (putb 4 2 big ++ (putb 0 4 big ++ (putb 0 4 big ++ (putb s 4 big ++ putb k0 4 big)))) ++ q).take (n - 4) := by
  rw [List.drop_take, headb_eq, List.append_assoc, List.drop_left' (putb_length ..)]
 have e1 : numv (((headb big nano s k0 ++ q).take n).drop 4) 0 2 big = 2 := by
  rw [hd, numv_take _ _ _ _ _ (by omega)]
  refine (numv_at' [] (putb 2 2 big) (putb 4 2 big ++ (putb 0 4 big ++ (putb 0 4 big ++ (putb s 4 big ++ putb k0 4 big))) ++ q) big (by simp) rfl (putb_length ..).symm).trans ?_
  exact getv_putb 2 2 big (by decide) (by decide)
 have e2 : numv (((headb big nano s k0 ++ q).take n).drop 4) 12 4 big = s := by
  rw [hd, numv_take _ _ _ _ _ (by omega)]
  refine (numv_at' (putb 2 2 big ++ putb 4 2 big ++ putb 0 4 big ++ putb 0 4 big) (putb s 4 big) (putb k0 4 big ++ q) big (by simp) (by simp only [List.length_append, putb_length]) (putb_length ..).symm).trans ?_
  exact getv_put4 _ _ hs.1 hs.2
 have e3 : numv (((headb big nano s k0 ++ q).take n).drop 4) 16 4 big = k0 := by
  rw [hd, numv_take _ _ _ _ _ (by omega)]
  refine (numv_at' (putb 2 2 big ++ putb 4 2 big ++ putb 0 4 big ++ putb 0 4 big ++ putb s 4 big) (putb k0 4 big) q big (by simp) (by simp only [List.length_append, putb_length]) (putb_length ..).symm).trans ?_
  exact getv_put4 _ _ hk.1 hk.2
 unfold headv_P
 rw [hl, if_neg (by omega), orderv_head big nano s k0 q n (by omega), if_neg (by simp), if_neg (by omega)]
 show (if numv (((headb big nano s k0 ++ q).take n).drop 4) 0 2 big ≠ 2 then _ else _) = _
 rw [e1, if_neg (by decide)]
 show (big, nano, numv (((headb big nano s k0 ++ q).take n).drop 4) 12 4 big, numv (((headb big nano s k0 ++ q).take n).drop 4) 16 4 big, (0 : Int)) = _
 rw [e2, e3]
theorem readw_whole (big : Bool) (b : List Int) : ∀ (m : List S51) (i : Nat) (acc : List S51) (f : Nat), (∀ r ∈ m, Fine r) → b.drop i = (m.map (recb big)).flatten → i ≤ b.length → b.length < i + f →
  readw big f b acc i = (acc ++ m, 0, 0)
 | [], i, acc, f, hf, hb, hi, hfu => by
  have : (b.drop i).length = 0 := by rw [hb]; rfl
  rw [List.length_drop] at this
  cases f with
  | zero => omega
  | succ f =>
   unfold readw
   rw [if_neg (by omega), List.append_nil]
 | r :: m, i, acc, 0, hf, hb, hi, hfu => by omega
 | r :: m, i, acc, f + 1, hf, hb, hi, hfu => by
  have hr := hf r (List.mem_cons_self ..)
  have hfl : ((r :: m).map (recb big)).flatten = recb big r ++ (m.map (recb big)).flatten := by rw [List.map_cons, List.flatten_cons]
  rw [hfl] at hb
  have hlt : i + (16 + r.f3.length) ≤ b.length := by
   have h1 : (b.drop i).length = _ := congrArg List.length hb
   rw [List.length_drop, List.length_append, recb_length] at h1
   omega
  have hdb : b.drop (i + (16 + r.f3.length)) = (m.map (recb big)).flatten := by
   rw [← List.drop_drop, hb, List.drop_left' (recb_length big r)]
  have hsz : i + (16 + (r.f3.length : Int)).toNat = i + (16 + r.f3.length) := by omega
  unfold readw
  rw [if_pos (by omega), hb, nextv_rec big r _ hr, if_pos rfl]
  show readw big f b (acc ++ [(⟨r.f0, r.f1, r.f2, r.f3⟩ : S51)]) (i + (16 + (r.f3.length : Int)).toNat) = _
  rw [hsz]
  show readw big f b (acc ++ [r]) (i + (16 + r.f3.length)) = _
  rw [readw_whole big b m (i + (16 + r.f3.length)) (acc ++ [r]) f (fun x hx => hf x (List.mem_cons_of_mem _ hx)) hdb (by omega) (by omega)]
  simp
abbrev Note := S58
/-- What is told of a note that came in. -/
def NoteOk (x : Note) : Prop := (-9223372036854775808 ≤ x.f0 ∧ x.f0 ≤ 9223372036854775807) ∧ (0 ≤ x.f1 ∧ x.f1 < 4294967296) ∧ Bytes x.f2
theorem rdN_get (l : List Note) (i : Nat) (h : i < l.length) : rd_T58 l (i : Int) = l[i] := by
 unfold rd_T58
 rw [Int.toNat_natCast, List.getD_eq_getElem?_getD, List.getElem?_eq_getElem h]
 rfl
def mayv_N (kind n : Int) (data : List Int) : Bool :=
 if kind = 1 ∨ kind = 2 then n == 0
 else if 0 < data.length then false
 else if kind = 3 ∨ kind = 4 then n == 0
 else if kind = 5 ∨ kind = 7 then true
 else if kind = 6 then decide (n < 256) else false
theorem mayv_kind {kind n : Int} {data : List Int} (h : mayv_N kind n data = true) : 1 ≤ kind ∧ kind ≤ 7 := by
 unfold mayv_N at h
 (repeat' split at h) <;> first | omega | cases h
/-- A note's bytes, of one that may be. -/
def onev (kind n : Int) (data : List Int) : List Int :=
 kind :: (if kind ≤ 2 then ((data.length : Int) / 256) :: ((data.length : Int) % 256) :: data else if kind = 6 then [n] else if kind = 5 ∨ kind = 7 then putb n 4 true else [])
theorem onev_len (kind n : Int) (data : List Int) : (onev kind n data).length ≤ data.length + 5 := by
 unfold onev
 (repeat' split) <;> simp [putb_length] <;> omega
theorem onev_bytes {kind n : Int} {data : List Int} (h : mayv_N kind n data = true) (hn : 0 ≤ n) (hd : Bytes data) (hl : data.length ≤ 65535) : Bytes (onev kind n data) := by
 have hk := mayv_kind h
 unfold onev
 refine Bytes.cons (by omega) ?_
 split
 ·exact Bytes.cons (by omega) (Bytes.cons (by omega) hd)
 ·split
  ·rename_i h1 h2
   subst h2
   unfold mayv_N at h
   rw [if_neg (by omega)] at h
   split at h
   ·cases h
   ·rw [if_neg (by omega), if_neg (by omega), if_pos rfl] at h
    exact Bytes.cons ⟨hn, by simpa using h⟩ Bytes.nil
  ·split
   ·exact putb_bytes _ _ _
   ·exact Bytes.nil
/-- The bytes of notes, behind others, or the first error. -/
def putgo (acc : List Int) : List Note → List Int × Int
 | [] => (acc, 0)
 | x :: l => if mayv_N x.f0 x.f1 x.f2 then (if 65535 < x.f2.length then ([], 4) else putgo (acc ++ onev x.f0 x.f1 x.f2) l) else ([], 1)
/-- How many bytes at most notes have. -/
def tot : List Note → Nat
 | [] => 0
 | x :: l => x.f2.length + 5 + tot l
theorem tot_append (l m : List Note) : tot (l ++ m) = tot l + tot m := by
 induction l with
 | nil => simp [tot]
 | cons a l ih =>
  simp only [List.cons_append, tot, ih]
  omega
/-- May all be, and is none too long? -/
def allOk (l : List Note) : Bool := l.all fun x => mayv_N x.f0 x.f1 x.f2 && decide (x.f2.length ≤ 65535)
def bytesv (l : List Note) : List Int := l.flatMap fun x => onev x.f0 x.f1 x.f2
theorem putgo_ok (l : List Note) : ∀ acc, allOk l = true → putgo acc l = (acc ++ bytesv l, 0) := by
 induction l with
 | nil => intro acc _; simp [putgo, bytesv]
 | cons a l ih =>
  intro acc h
  simp only [allOk, List.all_cons, Bool.and_eq_true, decide_eq_true_eq] at h
  rw [putgo, if_pos h.1.1, if_neg (by omega), ih _ (by simpa only [allOk, List.all_eq_true, Bool.and_eq_true, decide_eq_true_eq] using h.2)]
  simp [bytesv, List.append_assoc]
theorem kinds {k : Int} (h1 : ¬ k < 1) (h2 : ¬ k > 7) : k = 1 ∨ k = 2 ∨ k = 3 ∨ k = 4 ∨ k = 5 ∨ k = 6 ∨ k = 7 := by omega
theorem fits_4 {n : Int} (h1 : n < 4294967296) : fits n 4 = true := by
 unfold fits
 simp only [Bool.and_eq_true, decide_eq_true_eq]
 refine ⟨⟨by omega, by omega⟩, ?_⟩
 rw [show (256 : Int) ^ (4 : Int).toNat = 4294967296 by decide]
 exact h1
theorem fits_1 (n : Int) : fits n 1 = decide (n < 256) := by
 unfold fits
 rw [show (256 : Int) ^ (1 : Int).toNat = 256 by decide]
 simp
theorem fits_0 (n : Int) : fits n 0 = false := by
 unfold fits
 simp
theorem may_j0 (k : Nat) (kind n : Int) (data : List Int) (h1 : ¬ kind < 1) (h2 : ¬ kind > 7) (hn0 : 0 ≤ n) (hn : n < 4294967296) : dump_may.j0 (k + 1) false kind n data = some (mayv_N kind n data) := by
 rw [dump_may.j0, if_neg (by decide), if_pos (by omega), if_pos (by omega), wu64s hn0 (by omega)]
 have f : ∀ s, octet_Fits.f n s = some (fits n s) := fun s => fits_spec n s hn0 (by omega)
 unfold mayv_N
 by_cases e : n = 0
 ·by_cases hd : 0 < data.length
  ·rcases kinds h1 h2 with rfl | rfl | rfl | rfl | rfl | rfl | rfl <;> simp [rd_T131, formsG0, e, hd]
  ·rcases kinds h1 h2 with rfl | rfl | rfl | rfl | rfl | rfl | rfl <;> simp [rd_T131, formsG0, e, hd]
 ·by_cases hd : 0 < data.length
  ·rcases kinds h1 h2 with rfl | rfl | rfl | rfl | rfl | rfl | rfl <;> simp [rd_T131, formsG0, e, hd]
  ·rcases kinds h1 h2 with rfl | rfl | rfl | rfl | rfl | rfl | rfl <;> simp [rd_T131, formsG0, e, hd, f, fits_4 hn, fits_1]
theorem may_out {kind n : Int} {data : List Int} (h : kind < 1 ∨ kind > 7) : mayv_N kind n data = false := by
 cases e : mayv_N kind n data with
 | false => rfl
 | true =>
  have := mayv_kind e
  omega
theorem may_spec_N (kind n : Int) (data : List Int) (hn0 : 0 ≤ n) (hn : n < 4294967296) : Ev (fun k => dump_may.f k kind n data) (mayv_N kind n data) := by
 unfold dump_may.f
 by_cases h1 : kind < 1
 ·simp only [if_pos h1]
  rw [may_out (.inl h1)]
  exact Ev.step (f := fun _ => some false) (fun k => by rw [dump_may.j0, if_pos rfl]) (Ev.now _)
 ·simp only [if_neg h1]
  by_cases h2 : kind > 7
  ·simp only [h2, decide_true]
   rw [may_out (.inr h2)]
   exact Ev.step (f := fun _ => some false) (fun k => by rw [dump_may.j0, if_pos rfl]) (Ev.now _)
  ·simp only [h2, decide_false]
   exact Ev.step (f := fun _ => some (mayv_N kind n data)) (fun k => may_j0 k kind n data h1 h2 hn0 hn) (Ev.now _)
theorem rmay_spec (kind n : Int) (data : List Int) : Ev (fun k => umpireref10_May.f k kind n data) (mayv_N kind n data) := by
 unfold umpireref10_May.f
 have t : ∀ (b : Bool), b = decide (kind = 1 ∨ kind = 2) → Ev (fun k => umpireref10_May.j0 k b kind n data) (mayv_N kind n data) := by
  intro b hb
  refine Ev.step (f := fun _ => some (mayv_N kind n data)) (fun k => ?_) (Ev.now _)
  rw [umpireref10_May.j0, hb]
  unfold mayv_N
  by_cases h : kind = 1 ∨ kind = 2
  ·simp [h]
  ·simp only [h, decide_false, Bool.false_eq_true, if_false]
   by_cases hd : 0 < data.length
   ·rw [if_pos (by omega), if_pos hd]
   ·rw [if_neg (by omega), if_neg hd]
    by_cases e3 : kind = 3
    ·simp [e3]
    ·by_cases e4 : kind = 4
     ·simp [e4]
     ·by_cases e5 : kind = 5
      ·simp [e5]
      ·by_cases e7 : kind = 7
       ·simp [e7]
       ·by_cases e6 : kind = 6
        ·simp [e6]
        ·simp [e3, e4, e5, e6, e7]
 by_cases h1 : kind = 1
 ·simp only [if_pos h1]
  exact t true (by simp [h1])
 ·simp only [if_neg h1]
  exact t (kind == 2) (by rw [Bool.eq_iff_iff]; simp [h1])
theorem putb_1 {n : Int} (h0 : 0 ≤ n) (h : n < 256) : putb n 1 true = [n] := by
 unfold putb leb leb
 simp
 omega
/-- One note, laid behind others by the program. -/
theorem dput_one (x : Note) (hx : NoteOk x) (hm : mayv_N x.f0 x.f1 x.f2 = true) (hl : x.f2.length ≤ 65535) (acc : List Int) (ha : acc.length + (x.f2.length + 5) < 140737488355328) {G : Nat → List Int → Option (List Int × Int)} {r : List Int × Int}
  (hG : Ev (fun k => G k (acc ++ onev x.f0 x.f1 x.f2)) r) :
  Ev (fun k => (if acc.length < 140737488355328 then ((some (acc ++ [(x.f0) % 256] : List Int)).bind fun y119 => (if 0 ≤ (x.f0) then (if (x.f0) < 8 then (if (rd_T131 formsG0 (x.f0)).f0 = true then ((some (([(((x.f2).length : Int) / 256) % 256, (((x.f2).length : Int)) % 256] : List Int) : List Int)).bind fun y124 => (if y119.length + y124.length < 140737488355328 then ((some (y119 ++ y124 : List Int)).bind fun y127 => (if y127.length + (x.f2).length < 140737488355328 then (G k (y127 ++ (x.f2))) else (none))) else (none))) else ((octet_Put.f k (IntKind.u64.wrap (x.f1)) ((rd_T131 formsG0 (x.f0)).f1) true).bind fun bt133 => (if y119.length + bt133.1.length < 140737488355328 then (G k (y119 ++ bt133.1)) else (none)))) else (none)) else (none))) else (none))) r := by
 have hk := mayv_kind hm
 obtain ⟨_, hn, hb⟩ := hx
 have hko : x.f0 % 256 = x.f0 := by omega
 simp only [if_pos (show acc.length < 140737488355328 by omega), Option.bind_some, if_pos (show 0 ≤ x.f0 by omega), if_pos (show x.f0 < 8 by omega), hko]
 by_cases h2 : x.f0 ≤ 2
 ·have e : (rd_T131 formsG0 x.f0).f0 = true := by
   obtain h | h : x.f0 = 1 ∨ x.f0 = 2 := by omega
   all_goals rw [h]; rfl
  simp only [e, if_true, List.length_append, List.length_cons, List.length_nil]
  refine Ev.congr (fun k => if_pos (by omega)) ?_
  refine Ev.congr (fun k => if_pos (by omega)) ?_
  have e2 : onev x.f0 x.f1 x.f2 = [x.f0] ++ [((x.f2).length : Int) / 256, ((x.f2).length : Int) % 256] ++ x.f2 := by
   unfold onev
   rw [if_pos h2]
   rfl
  rw [e2, ← List.append_assoc, ← List.append_assoc] at hG
  rw [show ((x.f2).length : Int) / 256 % 256 = ((x.f2).length : Int) / 256 by omega]
  exact hG
 ·have e : (rd_T131 formsG0 x.f0).f0 = false := by
   obtain h | h | h | h | h : x.f0 = 3 ∨ x.f0 = 4 ∨ x.f0 = 5 ∨ x.f0 = 6 ∨ x.f0 = 7 := by omega
   all_goals rw [h]; rfl
  simp only [e, Bool.false_eq_true, if_false, List.length_append, List.length_cons, List.length_nil, wu64s hn.1 (show x.f1 < 18446744073709551616 by omega)]
  have key : (if fits x.f1 (rd_T131 formsG0 x.f0).f1 = true then (putb x.f1 (rd_T131 formsG0 x.f0).f1.toNat true, true) else ([], false)).1 = (onev x.f0 x.f1 x.f2).tail := by
   have hm2 := hm
   unfold mayv_N at hm2
   rw [if_neg (by omega)] at hm2
   split at hm2
   ·cases hm2
   ·unfold onev
    obtain h | h | h | h | h : x.f0 = 3 ∨ x.f0 = 4 ∨ x.f0 = 5 ∨ x.f0 = 6 ∨ x.f0 = 7 := by omega
    ·rw [h]
     simp [rd_T131, formsG0, fits_0]
    ·rw [h]
     simp [rd_T131, formsG0, fits_0]
    ·rw [h]
     simp [rd_T131, formsG0, fits_4 hn.2]
    ·rw [h] at hm2 ⊢
     simp at hm2
     simp [rd_T131, formsG0, fits_1, hm2, putb_1 hn.1 hm2]
    ·rw [h]
     simp [rd_T131, formsG0, fits_4 hn.2]
  refine Ev.bind (put_spec x.f1 _ true hn.1 (by omega)) ?_
  rw [key]
  have hl5 := onev_len x.f0 x.f1 x.f2
  have e3 : onev x.f0 x.f1 x.f2 = x.f0 :: (onev x.f0 x.f1 x.f2).tail := rfl
  have e4 : (onev x.f0 x.f1 x.f2).tail.length + 1 = (onev x.f0 x.f1 x.f2).length := by
   conv => rhs; rw [e3]
   rfl
  refine Ev.congr (fun k => if_pos (by omega)) ?_
  rw [e3] at hG
  simpa [List.append_assoc] using hG
theorem dput_loop (l : List Note) (hl : l.length < 140737488355328) (hx : ∀ x ∈ l, NoteOk x) : ∀ (d i : Nat) (acc : List Int), l.length - i = d → i ≤ l.length → acc.length + tot (l.drop i) < 140737488355328 →
  Ev (fun k => dump_Put.l0 k acc l (l.length : Int) (i : Int)) (putgo acc (l.drop i)) := by
 intro d
 induction d with
 | zero =>
  intro i acc hd hi ht
  refine Ev.step (f := fun _ => some (acc, 0)) (fun k => ?_) ?_
  ·rw [dump_Put.l0, if_neg (by omega)]
  ·rw [List.drop_of_length_le (by omega), putgo]
   exact Ev.now _
 | succ d ih =>
  intro i acc hd hi ht
  have hlt : i < l.length := by omega
  rw [List.drop_eq_getElem_cons hlt] at ht ⊢
  simp only [tot] at ht
  rw [putgo]
  have hok := hx l[i] (List.getElem_mem hlt)
  refine Ev.step (fun k => by rw [dump_Put.l0, if_pos (by omega), if_pos (by omega), if_pos (by omega), rdN_get l i hlt]) ?_
  refine Ev.bind (may_spec_N _ _ _ hok.2.1.1 hok.2.1.2) ?_
  cases hm : mayv_N l[i].f0 l[i].f1 l[i].f2 with
  | false =>
   simp only [Bool.false_eq_true, if_false]
   exact Ev.now _
  | true =>
   simp only [if_true]
   by_cases hb : 65535 < l[i].f2.length
   ·rw [if_pos hb]
    simp only [if_pos (show (l[i].f2.length : Int) > 65535 by omega)]
    exact Ev.now _
   ·rw [if_neg hb]
    simp only [if_neg (show ¬ (l[i].f2.length : Int) > 65535 by omega)]
    have hl5 := onev_len l[i].f0 l[i].f1 l[i].f2
    have h := ih (i + 1) (acc ++ onev l[i].f0 l[i].f1 l[i].f2) (by omega) (by omega) (by rw [List.length_append]; omega)
    refine dput_one l[i] hok hm (by omega) acc (by omega) (G := fun k a => dump_Put.l0 k a l (l.length : Int) (wrap64 ((i : Int) + 1))) ?_
    rw [w64 (by omega) (by omega)]
    exact h
theorem dput_spec (l : List Note) (hl : l.length < 140737488355328) (hx : ∀ x ∈ l, NoteOk x) (ht : tot l < 140737488355328) : Ev (fun k => dump_Put.f k l) (putgo [] l) := by
 have := dput_loop l hl hx l.length 0 [] (by omega) (by omega) (by simpa using ht)
 simpa [dump_Put.f] using this
theorem rone_spec (x : Note) (hx : NoteOk x) (hm : mayv_N x.f0 x.f1 x.f2 = true) (hl : x.f2.length ≤ 65535) : Ev (fun k => umpireref10_One.f k x.f0 x.f1 x.f2) (onev x.f0 x.f1 x.f2) := by
 have hk := mayv_kind hm
 obtain ⟨_, hn, hb⟩ := hx
 unfold umpireref10_One.f onev
 rw [show x.f0 % 256 = x.f0 by omega, w64 (x := (x.f2.length : Int) / 256) (by omega) (by omega), show ((x.f2).length : Int) / 256 % 256 = ((x.f2).length : Int) / 256 by omega]
 simp only [Option.bind_some]
 by_cases h2 : x.f0 ≤ 2
 ·simp only [if_pos h2, Option.bind_some, List.length_append, List.length_cons, List.length_nil]
  refine Ev.congr (fun k => if_pos (by omega)) ?_
  refine Ev.congr (fun k => if_pos (by omega)) ?_
  exact Ev.now _
 ·simp only [if_neg h2]
  by_cases h6 : x.f0 = 6
  ·simp only [h6, if_true]
   have h7 : x.f1 % 256 = x.f1 := by
    unfold mayv_N at hm
    rw [h6] at hm
    simp at hm
    omega
   simp only [List.length_cons, List.length_nil, h7]
   exact Ev.now _
  ·simp only [if_neg h6, wu64s hn.1 (show x.f1 < 18446744073709551616 by omega)]
   by_cases h5 : x.f0 = 5
   ·simp only [h5, if_true, true_or]
    refine Ev.bind (rput_spec x.f1 4 true hn.1 (by omega) (by omega)) ?_
    simp only [List.length_cons, List.length_nil, putb_length]
    exact Ev.now _
   ·simp only [if_neg h5]
    by_cases h7 : x.f0 = 7
    ·simp only [h7, if_true, or_true]
     refine Ev.bind (rput_spec x.f1 4 true hn.1 (by omega) (by omega)) ?_
     simp only [List.length_cons, List.length_nil, putb_length]
     exact Ev.now _
    ·simp only [if_neg h7, h5, h7, or_self, if_false]
     exact Ev.now _
theorem rput10_loop (l : List Note) (hl : l.length < 140737488355328) (hx : ∀ x ∈ l, NoteOk x) : ∀ (d i : Nat) (acc : List Int), l.length - i = d → i ≤ l.length → acc.length + tot (l.drop i) < 140737488355328 →
  Ev (fun k => umpireref10_Put.l0 k l acc (i : Int)) (putgo acc (l.drop i)) := by
 intro d
 induction d with
 | zero =>
  intro i acc hd hi ht
  refine Ev.step (f := fun _ => some (acc, 0)) (fun k => ?_) ?_
  ·rw [umpireref10_Put.l0, if_neg (by omega)]
  ·rw [List.drop_of_length_le (by omega), putgo]
   exact Ev.now _
 | succ d ih =>
  intro i acc hd hi ht
  have hlt : i < l.length := by omega
  rw [List.drop_eq_getElem_cons hlt] at ht ⊢
  simp only [tot] at ht
  rw [putgo]
  have hok := hx l[i] (List.getElem_mem hlt)
  refine Ev.step (fun k => by rw [umpireref10_Put.l0, if_pos (by omega), if_pos (by omega), rdN_get l i hlt]) ?_
  refine Ev.bind (rmay_spec _ _ _) ?_
  cases hm : mayv_N l[i].f0 l[i].f1 l[i].f2 with
  | false =>
   simp only [Bool.false_eq_true, if_false]
   exact Ev.now _
  | true =>
   simp only [if_true]
   by_cases hb : 65535 < l[i].f2.length
   ·rw [if_pos hb]
    simp only [if_pos (show (l[i].f2.length : Int) > 65535 by omega)]
    exact Ev.now _
   ·rw [if_neg hb]
    simp only [if_neg (show ¬ (l[i].f2.length : Int) > 65535 by omega)]
    have hl5 := onev_len l[i].f0 l[i].f1 l[i].f2
    refine Ev.bind (rone_spec l[i] hok hm (by omega)) ?_
    refine Ev.congr (fun k => if_pos (by omega)) ?_
    rw [w64 (by omega) (by omega)]
    exact ih (i + 1) (acc ++ onev l[i].f0 l[i].f1 l[i].f2) (by omega) (by omega) (by rw [List.length_append]; omega)
theorem rput10_spec (l : List Note) (hl : l.length < 140737488355328) (hx : ∀ x ∈ l, NoteOk x) (ht : tot l < 140737488355328) : Ev (fun k => umpireref10_Put.f k l) (putgo [] l) := by
 have := rput10_loop l hl hx l.length 0 [] (by omega) (by omega) (by simpa using ht)
 simpa [umpireref10_Put.f] using this
/-- How many bytes stand behind a kind, ahead of data. -/
def sz (c : Int) : Nat := if c ≤ 2 then 2 else if c ≤ 4 then 0 else if c = 6 then 1 else 4
theorem sz_le (c : Int) : sz c ≤ 4 := by unfold sz; (repeat' split) <;> omega
/-- The note with which bytes begin: kind, number, data, how many bytes, the error. -/
def nextv_N (b : List Int) : Int × Int × List Int × Int × Int :=
 match b with
 | [] => (0, 0, [], 0, 2)
 | c :: r =>
  if c < 1 ∨ 7 < c then (0, 0, [], 0, 7)
  else if r.length < sz c then (0, 0, [], 0, 2)
  else if 2 < c then (c, beval (r.take (sz c)), [], 1 + (sz c : Int), 0)
  else if (r.length : Int) < 2 + beval (r.take 2) then (0, 0, [], 0, 2)
  else (c, 0, (r.drop 2).take (beval (r.take 2)).toNat, 3 + beval (r.take 2), 0)
theorem beval_lt {l : List Int} (h : Bytes l) {n : Nat} (hl : l.length ≤ n) : 0 ≤ beval l ∧ beval l < 256 ^ n :=
 ⟨(beval_range l h).1, Int.lt_of_lt_of_le (beval_range l h).2 (pow256_le hl)⟩
theorem word_lt {r : List Int} (h : Bytes r) : 0 ≤ beval (r.take 2) ∧ beval (r.take 2) < 65536 := by
 have := beval_lt (h.take 2) (n := 2) (by rw [List.length_take]; omega)
 rw [show (256 : Int) ^ 2 = 65536 by decide] at this
 exact this
theorem quad_lt {r : List Int} (h : Bytes r) (c : Int) : 0 ≤ beval (r.take (sz c)) ∧ beval (r.take (sz c)) < 4294967296 := by
 have := beval_lt (h.take (sz c)) (n := 4) (by have := sz_le c; rw [List.length_take]; omega)
 rw [show (256 : Int) ^ 4 = 4294967296 by decide] at this
 exact this
/-- What a note that was read is. -/
theorem nextv_ok {b : List Int} {kind n size : Int} {data : List Int} (hb : Bytes b) (h : nextv_N b = (kind, n, data, size, 0)) :
  mayv_N kind n data = true ∧ (0 ≤ n ∧ n < 4294967296) ∧ Bytes data ∧ data.length ≤ 65535 ∧ 1 ≤ size ∧ size ≤ b.length ∧ b = onev kind n data ++ b.drop size.toNat := by
 cases b with
 | nil => simp [nextv_N] at h
 | cons c r =>
  have hr : Bytes r := fun x hx => hb x (List.mem_cons_of_mem _ hx)
  have hc := hb c (List.mem_cons_self ..)
  simp only [nextv_N] at h
  by_cases h1 : c < 1 ∨ 7 < c
  ·simp [h1] at h
  ·rw [if_neg h1] at h
   by_cases h2 : r.length < sz c
   ·simp [h2] at h
   ·rw [if_neg h2] at h
    by_cases h3 : 2 < c
    ·rw [if_pos h3] at h
     simp only [Prod.mk.injEq] at h
     obtain ⟨rfl, rfl, rfl, rfl, _⟩ := h
     have hq := quad_lt hr c
     have hd : (c :: r).drop (1 + (sz c : Int)).toNat = r.drop (sz c) := by
      rw [show (1 + (sz c : Int)).toNat = sz c + 1 by omega, List.drop_succ_cons]
     rw [hd]
     have hl : (r.take (sz c)).length = sz c := by rw [List.length_take]; omega
     refine ⟨?_, hq, Bytes.nil, by simp, by omega, by rw [List.length_cons]; omega, ?_⟩
     ·unfold mayv_N
      rw [if_neg (by omega), if_neg (by simp)]
      by_cases h4 : c = 3 ∨ c = 4
      ·rw [if_pos h4]
       have : sz c = 0 := by unfold sz; rw [if_neg (by omega), if_pos (by omega)]
       rw [this]
       rfl
      ·rw [if_neg h4]
       by_cases h5 : c = 5 ∨ c = 7
       ·rw [if_pos h5]
       ·rw [if_neg h5, if_pos (by omega)]
        have h6 : sz c = 1 := by unfold sz; rw [if_neg (by omega), if_neg (by omega), if_pos (by omega)]
        have := beval_lt (hr.take (sz c)) (n := 1) (by rw [hl]; omega)
        exact decide_eq_true (by omega)
     ·unfold onev
      rw [if_neg (by omega)]
      have hput : ∀ s, s = sz c → putb (beval (r.take (sz c))) s true = r.take (sz c) := by
       intro s hs
       have := putb_getv (r.take (sz c)) true (hr.take _)
       rw [hl] at this
       rw [hs]
       exact this
      by_cases h6 : c = 6
      ·have hs : sz c = 1 := by unfold sz; rw [if_neg (by omega), if_neg (by omega), if_pos h6]
       rw [if_pos h6]
       have := hput 1 hs.symm
       rw [hs] at this hl ⊢
       match hr1 : r.take 1, hl with
       | [y], _ =>
        have hy : beval [y] = y := by simp [beval]
        rw [hy]
        conv => lhs; rw [← List.take_append_drop 1 r, hr1]
        rfl
      ·rw [if_neg h6]
       by_cases h5 : c = 5 ∨ c = 7
       ·have hs : sz c = 4 := by unfold sz; rw [if_neg (by omega), if_neg (by omega), if_neg (by omega)]
        rw [if_pos h5, hput 4 hs.symm, List.cons_append, List.take_append_drop]
       ·have hs : sz c = 0 := by unfold sz; rw [if_neg (by omega), if_pos (by omega)]
        rw [if_neg h5, hs]
        rfl
    ·rw [if_neg h3] at h
     by_cases h4 : (r.length : Int) < 2 + beval (r.take 2)
     ·simp [h4] at h
     ·rw [if_neg h4] at h
      simp only [Prod.mk.injEq] at h
      obtain ⟨rfl, rfl, rfl, rfl, _⟩ := h
      have hw := word_lt hr
      have hs : sz c = 2 := by unfold sz; rw [if_pos (by omega)]
      rw [hs] at h2
      have hl2 : (r.take 2).length = 2 := by rw [List.length_take]; omega
      have hld : ((r.drop 2).take (beval (r.take 2)).toNat).length = (beval (r.take 2)).toNat := by
       rw [List.length_take, List.length_drop]
       omega
      refine ⟨?_, by omega, (hr.drop 2).take _, by rw [hld]; omega, by omega, by rw [List.length_cons]; omega, ?_⟩
      ·unfold mayv_N
       rw [if_pos (by omega)]
       rfl
      ·unfold onev
       rw [if_pos (by omega), hld]
       match hr2 : r.take 2, hl2 with
       | [y, z], _ =>
        have hb2 : Bytes [y, z] := by rw [← hr2]; exact hr.take 2
        have hy := hb2 y (by simp)
        have hz := hb2 z (by simp)
        have hv : beval [y, z] = y * 256 + z := by simp [beval]
        rw [hr2, hv] at hw
        rw [hv]
        have e1 : (((y * 256 + z).toNat : Nat) : Int) / 256 = y := by omega
        have e2 : (((y * 256 + z).toNat : Nat) : Int) % 256 = z := by omega
        rw [e1, e2]
        have hd : (c :: r).drop (3 + (y * 256 + z)).toNat = (r.drop 2).drop (y * 256 + z).toNat := by
         rw [show (3 + (y * 256 + z)).toNat = (2 + (y * 256 + z).toNat) + 1 by omega, List.drop_succ_cons, List.drop_drop]
        rw [hd]
        conv => lhs; rw [← List.take_append_drop 2 r, hr2]
        simp only [List.cons_append, List.nil_append, List.take_append_drop]
/-- A note, put, and whatever behind, reads as that note. -/
theorem nextv_one (x : Note) (hx : NoteOk x) (hm : mayv_N x.f0 x.f1 x.f2 = true) (hl : x.f2.length ≤ 65535) (r : List Int) : nextv_N (onev x.f0 x.f1 x.f2 ++ r) = (x.f0, x.f1, x.f2, ((onev x.f0 x.f1 x.f2).length : Int), 0) := by
 have hk := mayv_kind hm
 obtain ⟨_, hn, hb⟩ := hx
 by_cases h2 : x.f0 ≤ 2
 ·have hn0 : x.f1 = 0 := by
   unfold mayv_N at hm
   rw [if_pos (by omega)] at hm
   simpa using hm
  have e : onev x.f0 x.f1 x.f2 = x.f0 :: ((x.f2.length : Int) / 256) :: ((x.f2.length : Int) % 256) :: x.f2 := by
   unfold onev
   rw [if_pos h2]
  have hs : sz x.f0 = 2 := by unfold sz; rw [if_pos h2]
  have hw : beval [((x.f2.length : Int) / 256), ((x.f2.length : Int) % 256)] = x.f2.length := by
   simp [beval]
   omega
  rw [e]
  simp only [List.cons_append, nextv_N, hs]
  have ht : ((x.f2.length : Int) / 256 :: (x.f2.length : Int) % 256 :: (x.f2 ++ r)).take 2 = [((x.f2.length : Int) / 256), ((x.f2.length : Int) % 256)] := rfl
  rw [if_neg (by omega), if_neg (by simp), if_neg (by omega), ht, hw, if_neg (by simp; omega), hn0]
  simp only [Int.toNat_natCast, List.drop_succ_cons, List.drop_zero, List.take_left, List.length_cons]
  congr 4
  omega
 ·have hd : x.f2 = [] := by
   unfold mayv_N at hm
   rw [if_neg (by omega)] at hm
   by_cases h : 0 < x.f2.length
   ·rw [if_pos h] at hm
    cases hm
   ·exact List.eq_nil_of_length_eq_zero (by omega)
  have key : ∃ q, onev x.f0 x.f1 x.f2 = x.f0 :: q ∧ q.length = sz x.f0 ∧ beval q = x.f1 := by
   have hm2 := hm
   unfold mayv_N at hm2
   rw [if_neg (by omega), hd, if_neg (by simp)] at hm2
   unfold onev
   rw [if_neg h2]
   have hg4 : beval (putb x.f1 4 true) = x.f1 := getv_putb x.f1 4 true hn.1 (by rw [show (256 : Int) ^ 4 = 4294967296 by decide]; exact hn.2)
   obtain h | h | h | h | h : x.f0 = 3 ∨ x.f0 = 4 ∨ x.f0 = 5 ∨ x.f0 = 6 ∨ x.f0 = 7 := by omega
   ·rw [h] at hm2 ⊢
    simp at hm2
    exact ⟨[], rfl, rfl, by rw [hm2]; rfl⟩
   ·rw [h] at hm2 ⊢
    simp at hm2
    exact ⟨[], rfl, rfl, by rw [hm2]; rfl⟩
   ·rw [h]
    exact ⟨_, rfl, by simp [putb_length, sz], by simpa using hg4⟩
   ·rw [h]
    exact ⟨[x.f1], rfl, rfl, by simp [beval]⟩
   ·rw [h]
    exact ⟨_, rfl, by simp [putb_length, sz], by simpa using hg4⟩
  obtain ⟨q, e, hq, hv⟩ := key
  rw [e]
  simp only [List.cons_append, nextv_N]
  rw [if_neg (by omega), if_neg (by rw [List.length_append]; omega), if_pos (by omega), ← hq, List.take_left, hv, hd]
  simp only [List.length_cons]
  congr 4
  omega
/-- All notes: what was read, the fault. -/
def readgo : Nat → List Int → Int → List Note × Int × Int
 | 0, _, _ => ([], 0, 0)
 | f + 1, b, at_ =>
  if b = [] then ([], 0, 0)
  else if (nextv_N b).2.2.2.2 = 0 then (⟨(nextv_N b).1, (nextv_N b).2.1, (nextv_N b).2.2.1⟩ :: (readgo f (b.drop (nextv_N b).2.2.2.1.toNat) (at_ + (nextv_N b).2.2.2.1)).1, (readgo f (b.drop (nextv_N b).2.2.2.1.toNat) (at_ + (nextv_N b).2.2.2.1)).2)
  else ([], at_, (nextv_N b).2.2.2.2)
def readv_N (b : List Int) : List Note × Int × Int := readgo b.length b 0
/-- Notes that are right, put, read as they were. -/
theorem readgo_bytes (l : List Note) : ∀ (f : Nat) (at_ : Int), (∀ x ∈ l, NoteOk x) → allOk l = true → (bytesv l).length ≤ f → readgo f (bytesv l) at_ = (l, 0, 0) := by
 induction l with
 | nil =>
  intro f at_ _ _ _
  cases f <;> rfl
 | cons x l ih =>
  intro f at_ hx ha hf
  simp only [allOk, List.all_cons, Bool.and_eq_true, decide_eq_true_eq] at ha
  have hby : bytesv (x :: l) = onev x.f0 x.f1 x.f2 ++ bytesv l := rfl
  rw [hby] at hf ⊢
  rw [List.length_append] at hf
  have hpos : 0 < (onev x.f0 x.f1 x.f2).length := by unfold onev; simp
  cases f with
  | zero => omega
  | succ f =>
   rw [readgo, if_neg (fun h => by have := congrArg List.length h; rw [List.length_append, List.length_nil] at this; omega), nextv_one x (hx x (List.mem_cons_self ..)) ha.1.1 ha.1.2]
   simp only [if_true, Int.toNat_natCast, List.drop_left]
   rw [ih f _ (fun y hy => hx y (List.mem_cons_of_mem _ hy)) (by simpa only [allOk, List.all_eq_true, Bool.and_eq_true, decide_eq_true_eq] using ha.2) (by omega)]
theorem readv_bytes (l : List Note) (hx : ∀ x ∈ l, NoteOk x) (ha : allOk l = true) : readv_N (bytesv l) = (l, 0, 0) := readgo_bytes l _ 0 hx ha (Nat.le_refl _)
theorem kinds' {k : Int} (h : ¬ (k < 1 ∨ 7 < k)) : k = 1 ∨ k = 2 ∨ k = 3 ∨ k = 4 ∨ k = 5 ∨ k = 6 ∨ k = 7 := by omega
theorem form_f0 {c : Int} (h : ¬ (c < 1 ∨ 7 < c)) : (rd_T131 formsG0 c).f0 = decide (c ≤ 2) := by
 rcases kinds' h with rfl | rfl | rfl | rfl | rfl | rfl | rfl <;> rfl
theorem form_f1 {c : Int} (h : ¬ (c < 1 ∨ 7 < c)) : (if c ≤ 2 then (2 : Int) else (rd_T131 formsG0 c).f1) = sz c := by
 rcases kinds' h with rfl | rfl | rfl | rfl | rfl | rfl | rfl <;> rfl
theorem dnext_j1 (c : Int) (r : List Int) (hb : Bytes (c :: r)) (hl : (c :: r).length < 140737488355328) (h1 : ¬ (c < 1 ∨ 7 < c)) (f1 : Int) :
  Ev (fun k => dump_Next.j1 k (c :: r) 1 (sz c : Int) c 0 (decide (c ≤ 2)) f1) (nextv_N (c :: r)) := by
 have hr : Bytes r := fun x hx => hb x (List.mem_cons_of_mem _ hx)
 have hs := sz_le c
 rw [List.length_cons] at hl
 refine Ev.step (fun k => by rw [dump_Next.j1, cut_spec _ _ _ (by rw [List.length_cons]; omega) (by omega)]) ?_
 simp only [Option.bind_some, nextv_N]
 rw [if_neg h1]
 by_cases h2 : r.length < sz c
 ·rw [if_pos h2]
  have : cutv (c :: r) 1 (sz c) = ([], false) := by
   unfold cutv
   rw [if_neg (by rw [List.length_cons]; omega)]
  simp only [this, Bool.false_eq_true, if_false]
  exact Ev.now _
 ·rw [if_neg h2]
  have hc : cutv (c :: r) 1 (sz c) = (r.take (sz c), true) := by
   unfold cutv
   rw [if_pos (by rw [List.length_cons]; omega)]
   congr 1
  simp only [hc, if_true]
  have hlt : (r.take (sz c)).length = sz c := by rw [List.length_take]; omega
  refine Ev.bind (get_spec (r.take (sz c)) (hr.take _) true) ?_
  have hg : (if 1 ≤ (r.take (sz c)).length ∧ (r.take (sz c)).length ≤ 8 then (getv (r.take (sz c)) true, true) else (0, false)).1 = beval (r.take (sz c)) := by
   by_cases h : 1 ≤ (r.take (sz c)).length ∧ (r.take (sz c)).length ≤ 8
   ·rw [if_pos h]
    rfl
   ·rw [if_neg h]
    have : r.take (sz c) = [] := List.eq_nil_of_length_eq_zero (by omega)
    rw [this]
    rfl
  rw [hg]
  have hq := quad_lt hr c
  rw [w64 (x := (1 : Int) + (sz c : Int)) (by omega) (by omega)]
  by_cases h3 : 2 < c
  ·rw [if_pos h3]
   simp only [show decide (c ≤ 2) = false from decide_eq_false (by omega), Bool.false_eq_true, if_false]
   rw [Int.emod_eq_of_lt hq.1 hq.2]
   exact Ev.now _
  ·rw [if_neg h3]
   simp only [show decide (c ≤ 2) = true from decide_eq_true (by omega), if_true]
   have hs2 : sz c = 2 := by unfold sz; rw [if_pos (by omega)]
   rw [hs2] at hq hlt ⊢
   have hw := word_lt hr
   rw [w64 (x := beval (r.take 2)) (by omega) (by omega)]
   rw [cut_spec _ _ _ (by rw [List.length_cons]; omega) (by omega)]
   simp only [Option.bind_some]
   by_cases h4 : (r.length : Int) < 2 + beval (r.take 2)
   ·rw [if_pos h4]
    have : cutv (c :: r) (1 + ((2 : Nat) : Int)) (beval (r.take 2)) = ([], false) := by
     unfold cutv
     rw [if_neg (by rw [List.length_cons]; omega)]
    simp only [this, Bool.false_eq_true, if_false]
    exact Ev.now _
   ·rw [if_neg h4]
    have : cutv (c :: r) (1 + ((2 : Nat) : Int)) (beval (r.take 2)) = ((r.drop 2).take (beval (r.take 2)).toNat, true) := by
     unfold cutv
     rw [if_pos (by rw [List.length_cons]; omega)]
     rfl
    simp only [this, if_true]
    rw [w64 (by omega) (by omega)]
    rw [show (1 : Int) + ((2 : Nat) : Int) + beval (r.take 2) = 3 + beval (r.take 2) by omega]
    exact Ev.now _
theorem dnext_spec (b : List Int) (hb : Bytes b) (hl : b.length < 140737488355328) : Ev (fun k => dump_Next.f k b) (nextv_N b) := by
 cases b with
 | nil =>
  unfold dump_Next.f nextv_N
  exact Ev.now _
 | cons c r =>
  have hc := hb c (List.mem_cons_self ..)
  have hrd : rd (c :: r) 0 = c := rfl
  unfold dump_Next.f
  rw [List.length_cons] at hl
  simp only [if_neg (show ¬ (((c :: r).length : Int) = 0) by rw [List.length_cons]; omega), if_pos (show 0 < ((c :: r).length : Int) by rw [List.length_cons]; omega), hrd, w64 (show -9223372036854775808 ≤ c by omega) (show c ≤ 9223372036854775807 by omega)]
  by_cases h1 : c < 1 ∨ 7 < c
  ·have e : nextv_N (c :: r) = (0, 0, [], 0, 7) := by
    simp only [nextv_N]
    rw [if_pos h1]
   rw [e]
   by_cases h2 : c < 1
   ·simp only [if_pos h2]
    exact Ev.step (f := fun _ => some (0, 0, [], 0, 7)) (fun k => by rw [dump_Next.j0, if_pos rfl]) (Ev.now _)
   ·simp only [if_neg h2, show decide (c > 7) = true from decide_eq_true (by omega)]
    exact Ev.step (f := fun _ => some (0, 0, [], 0, 7)) (fun k => by rw [dump_Next.j0, if_pos rfl]) (Ev.now _)
  ·simp only [if_neg (show ¬ c < 1 by omega), show decide (c > 7) = false from decide_eq_false (by omega)]
   refine Ev.step (fun k => by rw [dump_Next.j0, if_neg (by decide), if_pos (by omega), if_pos (by omega), form_f0 h1]) ?_
   have hj := dnext_j1 c r hb (by rw [List.length_cons]; omega) h1 (rd_T131 formsG0 c).f1
   by_cases h2 : c ≤ 2
   ·simp only [h2, decide_true, if_true]
    have hs2 : sz c = 2 := by unfold sz; rw [if_pos h2]
    rw [hs2] at hj
    simp only [h2, decide_true] at hj
    exact hj
   ·simp only [h2, decide_false, Bool.false_eq_true, if_false]
    have hf := form_f1 h1
    rw [if_neg h2] at hf
    simp only [h2, decide_false, ← hf] at hj
    exact hj
theorem rnext_l0 (c : Int) (r : List Int) (hb : Bytes (c :: r)) (hl : (c :: r).length < 140737488355328) (h1 : ¬ (c < 1 ∨ 7 < c)) (h2 : ¬ r.length < sz c) : ∀ (d i : Nat), sz c - i = d → i ≤ sz c →
  Ev (fun k => umpireref10_Next.l0 k (c :: r) c (sz c : Int) (beval (r.take i)) (i : Int) c 0) (nextv_N (c :: r)) := by
 have hr : Bytes r := fun x hx => hb x (List.mem_cons_of_mem _ hx)
 have hs := sz_le c
 rw [List.length_cons] at hl
 intro d
 induction d with
 | zero =>
  intro i hd hi
  have e : i = sz c := by omega
  subst e
  refine Ev.step (f := fun _ => some (nextv_N (c :: r))) (fun k => ?_) (Ev.now _)
  rw [umpireref10_Next.l0, if_neg (by omega)]
  simp only [nextv_N]
  rw [if_neg h1, if_neg h2]
  by_cases h3 : 2 < c
  ·rw [if_pos h3, if_pos h3, w64 (by omega) (by omega)]
  ·rw [if_neg h3, if_neg h3]
   have hs2 : sz c = 2 := by unfold sz; rw [if_pos (by omega)]
   rw [hs2]
   have hw := word_lt hr
   rw [w64 (x := beval (r.take 2)) (by omega) (by omega), w64 (x := 3 + beval (r.take 2)) (by omega) (by omega)]
   by_cases h4 : (r.length : Int) < 2 + beval (r.take 2)
   ·rw [if_pos h4, if_pos (by rw [List.length_cons]; omega)]
   ·rw [if_neg h4, if_neg (by rw [List.length_cons]; omega), if_pos (by omega), if_pos (by rw [List.length_cons]; omega)]
    have hd : ((c :: r).take (3 + beval (r.take 2)).toNat).drop 3 = (r.drop 2).take (beval (r.take 2)).toNat := by
     rw [List.drop_take, show (3 + beval (r.take 2)).toNat - 3 = (beval (r.take 2)).toNat by omega]
     rfl
    rw [hd, if_pos (by simp; omega)]
    rfl
 | succ d ih =>
  intro i hd hi
  have hlt : i < r.length := by omega
  refine Ev.step (f := fun k => umpireref10_Next.l0 k (c :: r) c (sz c : Int) (beval (r.take (i + 1))) ((i + 1 : Nat) : Int) c 0) (fun k => ?_) (ih (i + 1) (by omega) (by omega))
  rw [umpireref10_Next.l0, if_pos (by omega), w64 (x := (1 : Int) + (i : Int)) (by omega) (by omega), if_pos (by omega), if_pos (by rw [List.length_cons]; omega), w64 (x := (i : Int) + 1) (by omega) (by omega)]
  have hrd : rd (c :: r) (1 + (i : Int)) = r[i] := by
   rw [show (1 : Int) + (i : Int) = ((i + 1 : Nat) : Int) by omega, rd_get (i + 1) (by rw [List.length_cons]; omega)]
   rfl
  have hb1 := hr.get i hlt
  have h3 := beval_lt (hr.take i) (n := 3) (by rw [List.length_take]; omega)
  rw [show (256 : Int) ^ 3 = 16777216 by decide] at h3
  rw [hrd, List.take_succ_eq_append_getElem hlt, beval_snoc]
  congr 1
  omega
theorem rnext_kinds {c : Int} (h1 : ¬ (c < 1 ∨ 7 < c)) : rd ([0, 2, 2, 0, 0, 4, 1, 4] : List Int) c = sz c := by
 rcases kinds' h1 with rfl | rfl | rfl | rfl | rfl | rfl | rfl <;> rfl
theorem rnext_spec_N (b : List Int) (hb : Bytes b) (hl : b.length < 140737488355328) : Ev (fun k => umpireref10_Next.f k b) (nextv_N b) := by
 cases b with
 | nil =>
  unfold umpireref10_Next.f nextv_N
  exact Ev.now _
 | cons c r =>
  have hc := hb c (List.mem_cons_self ..)
  have hrd : rd (c :: r) 0 = c := rfl
  unfold umpireref10_Next.f
  have hl2 := hl
  rw [List.length_cons] at hl2
  simp only [if_neg (show ¬ (((c :: r).length : Int) = 0) by rw [List.length_cons]; omega), if_pos (show 0 < ((c :: r).length : Int) by rw [List.length_cons]; omega), hrd, w64 (show -9223372036854775808 ≤ c by omega) (show c ≤ 9223372036854775807 by omega)]
  by_cases h1 : c < 1 ∨ 7 < c
  ·have e : nextv_N (c :: r) = (0, 0, [], 0, 7) := by
    simp only [nextv_N]
    rw [if_pos h1]
   rw [e]
   by_cases h2 : c < 1
   ·simp only [if_pos h2]
    exact Ev.step (f := fun _ => some (0, 0, [], 0, 7)) (fun k => by rw [umpireref10_Next.j0, if_pos rfl]) (Ev.now _)
   ·simp only [if_neg h2, show decide (c > 7) = true from decide_eq_true (by omega)]
    exact Ev.step (f := fun _ => some (0, 0, [], 0, 7)) (fun k => by rw [umpireref10_Next.j0, if_pos rfl]) (Ev.now _)
  ·simp only [if_neg (show ¬ c < 1 by omega), show decide (c > 7) = false from decide_eq_false (by omega)]
   have hs := sz_le c
   refine Ev.step (fun k => by rw [umpireref10_Next.j0, if_neg (by decide), Option.bind_some, if_pos (by omega), if_pos (show c < (([0, 2, 2, 0, 0, 4, 1, 4] : List Int).length : Int) from (by show c < 8; omega)), rnext_kinds h1, w64 (by omega) (by omega)]) ?_
   by_cases h2 : r.length < sz c
   ·have e : nextv_N (c :: r) = (0, 0, [], 0, 2) := by
     simp only [nextv_N]
     rw [if_neg h1, if_pos h2]
    rw [e]
    refine Ev.congr (fun k => if_pos (by rw [List.length_cons]; omega)) ?_
    exact Ev.now _
   ·refine Ev.congr (fun k => if_neg (by rw [List.length_cons]; omega)) ?_
    exact rnext_l0 c r hb hl h1 h2 _ 0 rfl (by omega)
theorem nextv_pos' {b : List Int} (hb : Bytes b) (h : (nextv_N b).2.2.2.2 = 0) : 1 ≤ (nextv_N b).2.2.2.1 ∧ (nextv_N b).2.2.2.1 ≤ b.length := by
 obtain ⟨kind, n, data, size, hx⟩ : ∃ kind n data size, nextv_N b = (kind, n, data, size, 0) := ⟨_, _, _, _, by rw [← h]⟩
 obtain ⟨_, _, _, _, h5, h6, _⟩ := nextv_ok hb hx
 rw [hx]
 exact ⟨h5, h6⟩
theorem drop_int (b : List Int) (at_ n : Int) (h0 : 0 ≤ at_) (hn : 0 ≤ n) : (b.drop at_.toNat).drop n.toNat = b.drop (at_ + n).toNat := by
 rw [List.drop_drop]
 congr 1
 omega
theorem dread_loop (b : List Int) (hb : Bytes b) (hl : b.length < 3518437208883) (f : Nat) : ∀ (at_ : Int) (acc : List Note), 0 ≤ at_ → at_ ≤ b.length → (b.length : Int) - at_ ≤ f → (acc.length : Int) ≤ at_ →
  Ev (fun k => dump_Read.l0 k b acc at_) (acc ++ (readgo f (b.drop at_.toNat) at_).1, (readgo f (b.drop at_.toNat) at_).2) := by
 induction f with
 | zero =>
  intro at_ acc h0 h1 hf ha
  refine Ev.step (f := fun _ => some (acc, 0, 0)) (fun k => ?_) ?_
  ·rw [dump_Read.l0, if_neg (by omega)]
  ·simp only [readgo, List.append_nil]
   exact Ev.now _
 | succ f ih =>
  intro at_ acc h0 h1 hf ha
  by_cases hlt : at_ < (b.length : Int)
  ·have hne : b.drop at_.toNat ≠ [] := by
    intro h
    have := congrArg List.length h
    rw [List.length_drop, List.length_nil] at this
    omega
   rw [readgo, if_neg hne]
   refine Ev.step (fun k => by rw [dump_Read.l0, if_pos hlt, if_pos h0, if_pos h1]) ?_
   refine Ev.bind (dnext_spec (b.drop at_.toNat) (hb.drop _) (by rw [List.length_drop]; omega)) ?_
   by_cases he : (nextv_N (b.drop at_.toNat)).2.2.2.2 = 0
   ·simp only [if_pos he]
    obtain ⟨p1, p2⟩ := nextv_pos' (hb.drop _) he
    rw [List.length_drop] at p2
    refine Ev.congr (fun k => if_pos (by omega)) ?_
    rw [w64 (by omega) (by omega)]
    have h := ih (at_ + (nextv_N (b.drop at_.toNat)).2.2.2.1) (acc ++ [⟨(nextv_N (b.drop at_.toNat)).1, (nextv_N (b.drop at_.toNat)).2.1, (nextv_N (b.drop at_.toNat)).2.2.1⟩]) (by omega) (by omega) (by omega) (by rw [List.length_append, List.length_cons, List.length_nil]; omega)
    rw [List.append_assoc] at h
    rw [drop_int b at_ _ h0 (by omega)]
    exact h
   ·simp only [if_neg he, List.append_nil]
    exact Ev.now _
  ·have hnil : b.drop at_.toNat = [] := List.drop_of_length_le (by omega)
   rw [readgo, if_pos hnil]
   refine Ev.step (f := fun _ => some (acc, 0, 0)) (fun k => ?_) ?_
   ·rw [dump_Read.l0, if_neg hlt]
   ·simp only [List.append_nil]
    exact Ev.now _
theorem dread_spec (b : List Int) (hb : Bytes b) (hl : b.length < 3518437208883) : Ev (fun k => dump_Read.f k b) (readv_N b) := by
 have := dread_loop b hb hl b.length 0 [] (by omega) (by omega) (by omega) (by simp)
 simpa [dump_Read.f, readv_N] using this
theorem rread_loop_N (b : List Int) (hb : Bytes b) (hl : b.length < 3518437208883) (f : Nat) : ∀ (at_ : Int) (acc : List Note), 0 ≤ at_ → at_ ≤ b.length → (b.length : Int) - at_ ≤ f → (acc.length : Int) ≤ at_ →
  Ev (fun k => umpireref10_Read.l0 k b acc at_) (acc ++ (readgo f (b.drop at_.toNat) at_).1, (readgo f (b.drop at_.toNat) at_).2) := by
 induction f with
 | zero =>
  intro at_ acc h0 h1 hf ha
  refine Ev.step (f := fun _ => some (acc, 0, 0)) (fun k => ?_) ?_
  ·rw [umpireref10_Read.l0, if_neg (by omega)]
  ·simp only [readgo, List.append_nil]
   exact Ev.now _
 | succ f ih =>
  intro at_ acc h0 h1 hf ha
  by_cases hlt : at_ < (b.length : Int)
  ·have hne : b.drop at_.toNat ≠ [] := by
    intro h
    have := congrArg List.length h
    rw [List.length_drop, List.length_nil] at this
    omega
   rw [readgo, if_neg hne]
   refine Ev.step (fun k => by rw [umpireref10_Read.l0, if_pos hlt, if_pos h0, if_pos h1]) ?_
   refine Ev.bind (rnext_spec_N (b.drop at_.toNat) (hb.drop _) (by rw [List.length_drop]; omega)) ?_
   by_cases he : (nextv_N (b.drop at_.toNat)).2.2.2.2 = 0
   ·simp only [if_pos he]
    obtain ⟨p1, p2⟩ := nextv_pos' (hb.drop _) he
    rw [List.length_drop] at p2
    refine Ev.congr (fun k => if_pos (by omega)) ?_
    rw [w64 (by omega) (by omega)]
    have h := ih (at_ + (nextv_N (b.drop at_.toNat)).2.2.2.1) (acc ++ [⟨(nextv_N (b.drop at_.toNat)).1, (nextv_N (b.drop at_.toNat)).2.1, (nextv_N (b.drop at_.toNat)).2.2.1⟩]) (by omega) (by omega) (by omega) (by rw [List.length_append, List.length_cons, List.length_nil]; omega)
    rw [List.append_assoc] at h
    rw [drop_int b at_ _ h0 (by omega)]
    exact h
   ·simp only [if_neg he, List.append_nil]
    exact Ev.now _
  ·have hnil : b.drop at_.toNat = [] := List.drop_of_length_le (by omega)
   rw [readgo, if_pos hnil]
   refine Ev.step (f := fun _ => some (acc, 0, 0)) (fun k => ?_) ?_
   ·rw [umpireref10_Read.l0, if_neg hlt]
   ·simp only [List.append_nil]
    exact Ev.now _
theorem rread_spec (b : List Int) (hb : Bytes b) (hl : b.length < 3518437208883) : Ev (fun k => umpireref10_Read.f k b) (readv_N b) := by
 have := rread_loop_N b hb hl b.length 0 [] (by omega) (by omega) (by omega) (by simp)
 simpa [umpireref10_Read.f, readv_N] using this
theorem mayv_span {p : Int} (h : mayv_H p = true) : 1 ≤ p ∧ p ≤ 65535 ∧ p % 2 = 1 ∧ p / 256 % 2 = 0 ∧ p ≠ 255 := by
 unfold mayv_H at h
 exact of_decide_eq_true h
theorem headv_again (p : Int) (m : mayv_H p = true) (more : List Int) : readv_H (headv_H p true false ++ more) = (p, ((headv_H p true false).length : Int), 0) := by
 have hr := mayv_span m
 have h2 : ∀ (r : List Int) (at_ : Int), protoAt (p / 256 % 256 :: p % 256 :: r) at_ = (p, at_ + 2, 0) := by
  intro r at_
  unfold protoAt
  dsimp only
  rw [if_neg (by omega), if_neg (by omega), show 256 * (p / 256 % 256) + p % 256 = p by omega]
 unfold headv_H
 simp only [Bool.false_eq_true, false_and, if_false, if_true, List.nil_append, List.cons_append, List.length_cons, List.length_nil]
 unfold readv_H
 simp only [if_true, h2 more 2]
 rfl
theorem headv_oct (p : Int) : Bytes (headv_H p true false) := by
 unfold headv_H
 simp only [Bool.false_eq_true, false_and, if_false, if_true]
 exact (Bytes.cons (by omega) (Bytes.cons (by omega) Bytes.nil)).append (Bytes.cons (by omega) (Bytes.cons (by omega) Bytes.nil))
theorem headv_four (p : Int) : (headv_H p true false).length = 4 := by
 unfold headv_H
 simp
theorem laid_oct (a : List Int) (z : Nat) (big : Bool) : Bytes (laidb a z big) := by
 unfold laidb
 induction a with
 | nil => exact Bytes.nil
 | cons x a ih => rw [List.map_cons, List.flatten_cons]; exact Bytes.append (putb_bytes _ _ _) ih
theorem headb_oct (big nano : Bool) (s k0 : Int) : Bytes (headb big nano s k0) := by
 unfold headb; exact (laid_oct _ _ _).append ((laid_oct _ _ _).append (laid_oct _ _ _))
theorem recs_oct (big : Bool) (l : List S51) (hb : ∀ r ∈ l, Bytes r.f3) : Bytes (l.map (recb big)).flatten := by
 induction l with
 | nil => exact Bytes.nil
 | cons x l ih =>
  rw [List.map_cons, List.flatten_cons]
  refine Bytes.append ?_ (ih (fun r hr => hb r (List.mem_cons_of_mem _ hr)))
  unfold recb
  exact (laid_oct _ _ _).append (hb x (List.mem_cons_self ..))
theorem recs_len (big : Bool) (l : List S51) : ((l.map (recb big)).flatten).length = capn l := by
 induction l with
 | nil => rfl
 | cons x l ih => rw [List.map_cons, List.flatten_cons, List.length_append, ih, recb_length]; rfl
theorem capv_all (big : Bool) (l : List S51) (h : ∀ r ∈ l, (r.f3.length : Int) ≤ 131072) (y : List Int) : capv big y l = (y ++ (l.map (recb big)).flatten, 0) := by
 induction l generalizing y with
 | nil => simp [capv]
 | cons r l ih =>
  unfold capv
  rw [if_neg (by have := h r (List.mem_cons_self ..); omega), ih (fun x hx => h x (List.mem_cons_of_mem _ hx))]
  simp
abbrev Item := S42
/-- May an item be? -/
def mayc (x : Item) : Bool := (decide (x.f0 = 1 ∨ x.f0 = 2) && mayv_H x.f1) && decide (x.f2.length ≤ 65531)
theorem mayc_spec (x : Item) : capture_May.f x.f0 x.f1 x.f2 = some (mayc x) := by
 have hd : (decide ((x.f2.length : Int) ≤ 65531)) = decide (x.f2.length ≤ 65531) := by
  rw [Bool.eq_iff_iff, decide_eq_true_iff, decide_eq_true_iff]
  omega
 unfold capture_May.f mayc
 simp only [may_spec_H, Option.bind_some]
 by_cases h1 : x.f0 = 1
 ·cases hm : mayv_H x.f1 <;> simp [h1, hd]
 ·by_cases h2 : x.f0 = 2
  ·cases hm : mayv_H x.f1 <;> simp [h2, hd]
  ·simp [h1, h2]
theorem mayc_of {x : Item} (h : mayc x = true) : (x.f0 = 1 ∨ x.f0 = 2) ∧ mayv_H x.f1 = true ∧ x.f2.length ≤ 65531 := by
 unfold mayc at h
 simp only [Bool.and_eq_true, decide_eq_true_eq] at h
 exact ⟨h.1.1, h.1.2, h.2⟩
theorem index_fine : ∀ (l : List Item) (j : Nat), (∀ x ∈ l, mayc x = true) → slices_IndexFunc_Item.go l j = some (-1)
 | [], _, _ => rfl
 | x :: m, j, h => by
  rw [slices_IndexFunc_Item.go, mayc_spec, h x (by simp), Option.bind_some, if_pos rfl]
  exact index_fine m (j + 1) fun y hy => h y (by simp [hy])
theorem index_bad : ∀ (l : List Item) (j : Nat), (∃ x ∈ l, mayc x = false) → ∃ i : Int, 0 ≤ i ∧ slices_IndexFunc_Item.go l j = some i
 | [], _, h => by obtain ⟨x, hx, _⟩ := h; cases hx
 | x :: m, j, h => by
  cases hx : mayc x with
  | true =>
   have h2 : ∃ y ∈ m, mayc y = false := by
    obtain ⟨y, hy, hb⟩ := h
    rcases List.mem_cons.1 hy with rfl | hy
    ·rw [hx] at hb; cases hb
    ·exact ⟨y, hy, hb⟩
   obtain ⟨i, h0, hi⟩ := index_bad m (j + 1) h2
   refine ⟨i, h0, ?_⟩
   rw [slices_IndexFunc_Item.go, mayc_spec, hx, Option.bind_some, if_pos rfl]
   exact hi
  | false =>
   refine ⟨(j : Int), by omega, ?_⟩
   rw [slices_IndexFunc_Item.go, mayc_spec, hx, Option.bind_some, if_neg (by decide)]
/-- An item's frame. -/
def wholev (x : Item) : List Int := headv_H x.f1 true false ++ x.f2
theorem wholev_len (x : Item) : (wholev x).length = 4 + x.f2.length := by
 unfold wholev
 rw [List.length_append, headv_four]
theorem wholev_bytes {x : Item} (hb : Bytes x.f2) : Bytes (wholev x) := (headv_oct x.f1).append hb
theorem whole_spec (x : Item) (h : mayc x = true) : capture_whole.f x.f0 x.f1 x.f2 = some (wholev x) := by
 obtain ⟨_, hm, hl⟩ := mayc_of h
 unfold capture_whole.f wholev
 rw [hput_spec, hm, Option.bind_some]
 simp only [if_true]
 rw [if_pos (by rw [headv_four]; omega)]
theorem body_whole (x : Item) (h : mayc x = true) : bodyv (wholev x) = (x.f1, x.f2, 0) := by
 obtain ⟨_, hm, hl⟩ := mayc_of h
 unfold bodyv wholev
 rw [headv_again x.f1 hm x.f2]
 simp
/-- What an item's body gives, behind others. -/
def itemv (out : List Item) (dir : Int) (b : List Int) : List Item := if (bodyv b).2.2 = 0 then out ++ [⟨dir, (bodyv b).1, (bodyv b).2.1⟩] else out
theorem item_spec (out : List Item) (dir : Int) (b : List Int) (hb : Bytes b) (hl : b.length < 140737488355328) (ho : out.length < 3518437208883) : Ev (fun k => capture_item.f k out dir b) (itemv out dir b) := by
 unfold capture_item.f itemv
 refine Ev.bind (body_spec b hb hl) ?_
 by_cases c : (bodyv b).2.2 = 0
 ·simp only [c, if_true, ho]
  exact Ev.now _
 ·simp only [c, if_false]
  exact Ev.now _
theorem itemv_whole (out : List Item) (dir : Int) (x : Item) (h : mayc x = true) : itemv out dir (wholev x) = out ++ [⟨dir, x.f1, x.f2⟩] := by
 unfold itemv
 rw [body_whole x h]
 simp
theorem rdI_get (l : List Item) (i : Nat) (h : i < l.length) : rd_T42 l (i : Int) = l[i] := by
 unfold rd_T42
 rw [Int.toNat_natCast, List.getD_eq_getElem?_getD, List.getElem?_eq_getElem h]
 rfl
def recv (i : Nat) (x : Item) : S51 := ⟨(i : Int), 0, ((wholev x).length + 1 : Nat), (x.f0 - 1) :: wholev x⟩
def recsv : Nat → List Item → List S51
 | _, [] => []
 | i, x :: t => recv i x :: recsv (i + 1) t
theorem recsv_length : ∀ (l : List Item) (i : Nat), (recsv i l).length = l.length
 | [], _ => rfl
 | x :: t, i => by rw [recsv, List.length_cons, recsv_length t, List.length_cons]
theorem recsv_mem : ∀ (l : List Item) (i : Nat) (r : S51), r ∈ recsv i l → ∃ j x, x ∈ l ∧ r = recv j x ∧ j < i + l.length
 | [], i, r, h => by cases h
 | x :: t, i, r, h => by
  rw [recsv] at h
  rcases List.mem_cons.1 h with rfl | h
  ·exact ⟨i, x, by simp, rfl, by simp⟩
  ·obtain ⟨j, y, hy, e, hj⟩ := recsv_mem t (i + 1) r h
   exact ⟨j, y, by simp [hy], e, by rw [List.length_cons]; omega⟩
theorem recsv_capn : ∀ (l : List Item) (i : Nat), (∀ x ∈ l, mayc x = true) → capn (recsv i l) ≤ l.length * 65552
 | [], _, _ => Nat.le_refl _
 | x :: t, i, h => by
  have h1 := (mayc_of (h x (by simp))).2.2
  have h2 := wholev_len x
  have h3 := recsv_capn t (i + 1) fun y hy => h y (by simp [hy])
  have h4 : (recv i x).f3.length = (wholev x).length + 1 := rfl
  rw [recsv, capn, List.length_cons]
  omega
theorem rw_loop (l : List Item) (hn : l.length ≤ 60) (hm : ∀ x ∈ l, mayc x = true) : ∀ (d i : Nat) (acc : List S51), l.length - i = d → i ≤ l.length → acc.length = i → ∀ {r : List Int × Int}, Ev (fun k => pcap_Put.f k false false 65535 204 (acc ++ recsv i (l.drop i))) r →
  Ev (fun k => capture_records_write.l0 k acc l (l.length : Int) (i : Int)) r := by
 intro d
 induction d with
 | zero =>
  intro i acc hd hi ha r hr
  obtain rfl : i = l.length := by omega
  rw [List.drop_length, recsv, List.append_nil] at hr
  refine Ev.step (fun k => by rw [capture_records_write.l0, if_neg (by omega)]) ?_
  obtain ⟨r1, r2⟩ := r
  exact Ev.bind hr (Ev.now _)
 | succ d ih =>
  intro i acc hd hi ha r hr
  have hlt : i < l.length := by omega
  have hmx := hm l[i] (List.getElem_mem hlt)
  have h1 := mayc_of hmx
  have h2 := wholev_len l[i]
  have e2 : wrap64 ((i : Int) + 1) = ((i + 1 : Nat) : Int) := w64 (by omega) (by omega)
  have e3 : wrap64 (l[i].f0 - 1) % 256 = l[i].f0 - 1 := by rw [w64 (by omega) (by omega)]; omega
  have e4 : (⟨(i : Int) % 4294967296, 0, ((([l[i].f0 - 1] ++ wholev l[i] : List Int).length : Int)) % 4294967296, [l[i].f0 - 1] ++ wholev l[i]⟩ : S51) = recv i l[i] := by
   unfold recv
   rw [List.singleton_append, List.length_cons, Int.emod_eq_of_lt (by omega) (by omega), Int.emod_eq_of_lt (by omega) (by omega)]
  rw [List.drop_eq_getElem_cons hlt, recsv] at hr
  have next := ih (i + 1) (acc ++ [recv i l[i]]) (by omega) (by omega) (by rw [List.length_append, List.length_singleton]; omega) (r := r) (by rw [List.append_assoc, List.singleton_append]; exact hr)
  have g4 : ([l[i].f0 - 1] : List Int).length + (wholev l[i]).length < 140737488355328 := by rw [List.length_singleton]; omega
  refine Ev.step (fun k => ?_) next
  rw [capture_records_write.l0, if_pos (by omega), if_pos (by omega), if_pos (by omega), rdI_get l i hlt, e3, Option.bind_some, whole_spec _ hmx, Option.bind_some, if_pos g4, Option.bind_some, if_pos (by omega), e4, e2]
theorem recs_item (dir : Int) (i : Nat) (x : Item) (h : mayc x = true) : capture_records_read.of dir 204 (recv i x).f3 = (x.f0, wholev x) := by
 have h1 := mayc_of h
 unfold capture_records_read.of
 rw [if_pos ⟨rfl, by show 0 < (wholev x).length + 1; omega⟩]
 show ((if x.f0 - 1 = 0 then (1 : Int) else 2), wholev x) = _
 rcases h1.1 with e | e
 ·rw [e, if_pos (by decide)]
 ·rw [e, if_neg (by decide)]
theorem records_go (dir : Int) : ∀ (l : List Item) (i : Nat) (out : List Item), (∀ x ∈ l, mayc x = true ∧ Bytes x.f2) → out.length + l.length ≤ 1000 → Ev (fun k => capture_records_read.go k dir 204 (recsv i l) out) (out ++ l)
 | [], i, out, _, _ => by rw [List.append_nil]; exact Ev.now _
 | x :: t, i, out, h, hn => by
  obtain ⟨hm, hb⟩ := h x (by simp)
  have h1 := mayc_of hm
  have h2 := wholev_len x
  rw [List.length_cons] at hn
  refine Ev.congr (f := fun k => (capture_item.f k out x.f0 (wholev x)).bind fun o => capture_records_read.go k dir 204 (recsv (i + 1) t) o) (fun k => ?_) ?_
  ·rw [recsv, capture_records_read.go, recs_item dir i x hm]
  ·refine Ev.bind (item_spec out x.f0 (wholev x) (wholev_bytes hb) (by omega) (by omega)) ?_
   rw [itemv_whole out x.f0 x hm]
   have := records_go dir t (i + 1) (out ++ [x]) (fun y hy => h y (by simp [hy])) (by rw [List.length_append, List.length_singleton]; omega)
   rw [List.append_assoc, List.singleton_append] at this
   exact this
/-- The bytes of a capture of records. -/
def recordsv (l : List Item) : List Int := headb false false 65535 204 ++ ((recsv 0 l).map (recb false)).flatten
theorem recsv_fine (l : List Item) (hn : l.length ≤ 60) (h : ∀ x ∈ l, mayc x = true ∧ Bytes x.f2) : ∀ r ∈ recsv 0 l, Fine r ∧ Bytes r.f3 := by
 intro r hr
 obtain ⟨j, x, hx, rfl, hj⟩ := recsv_mem l 0 r hr
 obtain ⟨hm, hb⟩ := h x hx
 have h1 := mayc_of hm
 have h2 := wholev_len x
 refine ⟨⟨⟨⟨by show (0 : Int) ≤ (j : Int); omega, by show (j : Int) < _; omega⟩, ⟨by show (0 : Int) ≤ 0; omega, by show (0 : Int) < _; omega⟩, ⟨by show (0 : Int) ≤ (((wholev x).length + 1 : Nat) : Int); omega, by show (((wholev x).length + 1 : Nat) : Int) < _; omega⟩⟩, ?_⟩, ?_⟩
 ·show (((wholev x).length + 1 : Nat) : Int) ≤ _
  omega
 ·exact Bytes.cons (by omega) (wholev_bytes hb)
theorem records_put (l : List Item) (hn : l.length ≤ 60) (h : ∀ x ∈ l, mayc x = true ∧ Bytes x.f2) : Ev (fun k => capture_records_write.f k 0 0 l) (recordsv l, 0) := by
 have hf := recsv_fine l hn h
 have hc := recsv_capn l 0 fun x hx => (h x hx).1
 have hl := recsv_length l 0
 have hp := capput_spec false false 65535 204 (recsv 0 l) (by omega) (fun r hr => (hf r hr).1.1) ⟨by omega, by omega⟩ ⟨by omega, by omega⟩ (by omega)
 rw [capv_all false (recsv 0 l) (fun r hr => (hf r hr).1.2)] at hp
 unfold capture_records_write.f
 exact rw_loop l hn (fun x hx => (h x hx).1) l.length 0 [] rfl (Nat.zero_le _) rfl hp
theorem records_back (dir : Int) (l : List Item) (hn : l.length ≤ 60) (h : ∀ x ∈ l, mayc x = true ∧ Bytes x.f2) : Ev (fun k => capture_records_read.f k (recordsv l) dir) (l, 0, 0) := by
 have hf := recsv_fine l hn h
 have hc := recsv_capn l 0 fun x hx => (h x hx).1
 have hB : Bytes (recordsv l) := (headb_oct _ _ _ _).append (recs_oct false _ fun r hr => (hf r hr).2)
 have hh := headb_length false false 65535 204
 have hrl := recs_len false (recsv 0 l)
 have hdrop : (recordsv l).drop 24 = ((recsv 0 l).map (recb false)).flatten := List.drop_left' hh
 have hlen : (recordsv l).length = 24 + capn (recsv 0 l) := by unfold recordsv; rw [List.length_append, hh, hrl]
 have hv2 := headv_whole false false 65535 204 ⟨by omega, by omega⟩ ⟨by omega, by omega⟩ ((recsv 0 l).map (recb false)).flatten (recordsv l).length (Nat.le_refl _) (by omega)
 have e : headb false false 65535 204 ++ ((recsv 0 l).map (recb false)).flatten = recordsv l := rfl
 rw [e, List.take_length] at hv2
 have hg := records_go dir l 0 [] h (by rw [List.length_nil]; omega)
 rw [List.nil_append] at hg
 unfold capture_records_read.f
 refine Ev.bind (read_spec_P (recordsv l) hB (by omega)) ?_
 unfold readv_P
 rw [hv2, if_pos rfl]
 dsimp only
 rw [readw_whole false (recordsv l) (recsv 0 l) 24 [] ((recordsv l).length + 1) (fun r hr => (hf r hr).1) hdrop (by omega) (by omega), List.nil_append]
 refine Ev.congr (fun k => if_neg (by simp)) ?_
 refine Ev.congr (fun k => if_neg (by decide)) ?_
 exact Ev.bind hg (Ev.now _)
theorem parts_flat (l : List Int) : ∀ c : Nat, ((List.range c).map fun j => (l.drop (j * 65535)).take 65535).flatten = l.take (c * 65535)
 | 0 => by simp
 | c + 1 => by
  rw [List.range_succ, List.map_append, List.flatten_append, parts_flat l c, Nat.succ_mul, List.take_add]
  simp
/-- A row's parts. -/
def partsv (l : List Int) : List (List Int) := (List.range (Chunk.count l.length)).map fun j => (l.drop (j * 65535)).take 65535
theorem partsv_flat (l : List Int) : (partsv l).flatten = l := by
 unfold partsv
 rw [parts_flat, List.take_of_length_le (by unfold Chunk.count; omega)]
theorem partsv_len (l : List Int) : ∀ p ∈ partsv l, p.length ≤ 65535 := by
 intro p hp
 unfold partsv at hp
 obtain ⟨j, _, rfl⟩ := List.mem_map.1 hp
 rw [List.length_take]
 omega
theorem partsv_bytes {l : List Int} (hb : Bytes l) : ∀ p ∈ partsv l, Bytes p := by
 intro p hp
 unfold partsv at hp
 obtain ⟨j, _, rfl⟩ := List.mem_map.1 hp
 exact (hb.drop _).take _
def noteof (kind : Int) (p : List Int) : Note := ⟨kind, 0, p⟩
theorem notes_of (kind : Int) (l : List Int) : (List.range (Chunk.count l.length)).map (capture_notes_write.note kind l) = (partsv l).map (noteof kind) := by
 unfold partsv
 rw [List.map_map]
 rfl
/-- What a part of a capture's dump holds: the stream of an item's frame. -/
def streamof (m : Int) (wide : Bool) (x : Item) : List Int := 126 :: framev (if x.f0 = 1 then m else 0) wide (wholev x)
def notesv (m : Int) (wide : Bool) : List Item → List Note
 | [] => []
 | x :: t => (partsv (streamof m wide x)).map (noteof (if x.f0 = 1 then 2 else 1)) ++ notesv m wide t
theorem streamof_len (m : Int) (wide : Bool) (x : Item) (h : mayc x = true) : (streamof m wide x).length ≤ 140010 := by
 have h1 := mayc_of h
 have h2 := wholev_len x
 have h3 := framev_len (if x.f0 = 1 then m else 0) wide (wholev x) (by omega)
 unfold streamof
 rw [List.length_cons]
 omega
theorem streamof_bytes (m : Int) (wide : Bool) (x : Item) (hb : Bytes x.f2) : Bytes (streamof m wide x) := by
 unfold streamof framev
 exact Bytes.cons ⟨by decide, by decide⟩ ((stuffv_bytes (sealv_bytes (wholev_bytes hb) wide) _).append (Bytes.cons ⟨by decide, by decide⟩ Bytes.nil))
theorem nw_go (m : Int) (wide : Bool) (h0 : 0 ≤ m) (h1 : m < 4294967296) : ∀ (l : List Item) (out : List Note), (∀ x ∈ l, mayc x = true ∧ Bytes x.f2) → out.length + l.length * 3 ≤ 1000 →
  Ev (fun k => capture_notes_write.go k m wide l out) (out ++ notesv m wide l)
 | [], out, _, _ => by rw [notesv, List.append_nil]; exact Ev.now _
 | x :: t, out, h, hn => by
  obtain ⟨hm, hb⟩ := h x (by simp)
  have h2 := mayc_of hm
  have h3 := wholev_len x
  have h4 := streamof_len m wide x hm
  have hc : Chunk.count (streamof m wide x).length ≤ 3 := by unfold Chunk.count; omega
  rw [List.length_cons] at hn
  have hput := put_spec_f (if x.f0 = 1 then m else 0) wide (by split <;> omega) (by split <;> omega) (wholev x) (wholev_bytes hb) (by omega)
  rw [rowv_one, if_neg (show ¬ ((wholev x).length : Int) < 2 by omega), if_neg (show ¬ ((wholev x).length : Int) > 65535 by omega)] at hput
  refine Ev.congr (f := fun k => (frame_Put.f k (wholev x) (if x.f0 = 1 then m else 0) wide).bind fun t1 => if t1.1.length ≤ 140737488355328 ∧ out.length + Chunk.count t1.1.length < 1099511627776 then capture_notes_write.go k m wide t (out ++ (List.range (Chunk.count t1.1.length)).map (capture_notes_write.note (if x.f0 = 1 then 2 else 1) t1.1)) else none) (fun k => ?_) ?_
  ·rw [capture_notes_write.go, whole_spec x hm, Option.bind_some]
  ·refine Ev.bind hput ?_
   have hif : (streamof m wide x).length ≤ 140737488355328 ∧ out.length + Chunk.count (streamof m wide x).length < 1099511627776 := ⟨by omega, by omega⟩
   refine Ev.congr (fun k => if_pos hif) ?_
   have e := notes_of (if x.f0 = 1 then 2 else 1) (streamof m wide x)
   have next := nw_go m wide h0 h1 t (out ++ (partsv (streamof m wide x)).map (noteof (if x.f0 = 1 then 2 else 1))) (fun y hy => h y (by simp [hy])) (by rw [List.length_append, List.length_map]; unfold partsv; rw [List.length_map, List.length_range]; omega)
   rw [notesv, ← List.append_assoc]
   rw [← e] at next ⊢
   exact next
theorem notesv_ok (m : Int) (wide : Bool) : ∀ (l : List Item), (∀ x ∈ l, mayc x = true ∧ Bytes x.f2) → (∀ y ∈ notesv m wide l, NoteOk y) ∧ allOk (notesv m wide l) = true ∧ tot (notesv m wide l) ≤ l.length * 200000 ∧ (notesv m wide l).length ≤ l.length * 3
 | [], _ => ⟨(fun y h => by cases (show y ∈ ([] : List Note) from h)), rfl, Nat.le_refl _, Nat.le_refl _⟩
 | x :: t, h => by
  obtain ⟨hm, hb⟩ := h x (by simp)
  have h2 := mayc_of hm
  have h4 := streamof_len m wide x hm
  have hc : Chunk.count (streamof m wide x).length ≤ 3 := by unfold Chunk.count; omega
  obtain ⟨i1, i2, i3, i4⟩ := notesv_ok m wide t fun y hy => h y (by simp [hy])
  have hk : (if x.f0 = 1 then (2 : Int) else 1) = 1 ∨ (if x.f0 = 1 then (2 : Int) else 1) = 2 := by split <;> simp
  have hpl : (partsv (streamof m wide x)).length ≤ 3 := by unfold partsv; rw [List.length_map, List.length_range]; exact hc
  have hps := partsv_len (streamof m wide x)
  have hpb := partsv_bytes (streamof_bytes m wide x hb)
  unfold notesv
  generalize partsv (streamof m wide x) = ps at hpl hps hpb ⊢
  generalize (if x.f0 = 1 then (2 : Int) else 1) = kd at hk ⊢
  have hone : ∀ p ∈ ps, NoteOk (noteof kd p) ∧ (mayv_N kd 0 p && decide (p.length ≤ 65535)) = true := by
   intro p hp
   refine ⟨⟨⟨by show _ ≤ kd; omega, by show kd ≤ _; omega⟩, ⟨by show (0 : Int) ≤ 0; omega, by show (0 : Int) < _; omega⟩, hpb p hp⟩, ?_⟩
   rw [Bool.and_eq_true, decide_eq_true_iff]
   refine ⟨?_, hps p hp⟩
   unfold mayv_N
   rw [if_pos hk]
   rfl
  have htot : tot (ps.map (noteof kd)) ≤ ps.length * 65540 := by
   clear hpl hpb hone
   induction ps with
   | nil => exact Nat.le_refl _
   | cons p ps ih =>
    have h1 := hps p (by simp)
    have h2 := ih fun q hq => hps q (by simp [hq])
    have h3 : (noteof kd p).f2.length = p.length := rfl
    rw [List.map_cons, tot, List.length_cons]
    omega
  refine ⟨?_, ?_, ?_, ?_⟩
  ·intro y hy
   rcases List.mem_append.1 hy with hy | hy
   ·obtain ⟨p, hp, rfl⟩ := List.mem_map.1 hy
    exact (hone p hp).1
   ·exact i1 y hy
  ·unfold allOk at i2 ⊢
   rw [List.all_append, i2, Bool.and_true, List.all_map, List.all_eq_true]
   intro p hp
   exact (hone p hp).2
  ·rw [tot_append, List.length_cons]
   omega
  ·rw [List.length_append, List.length_map, List.length_cons]
   omega
theorem bytesv_le (l : List Note) : (bytesv l).length ≤ tot l := by
 induction l with
 | nil => exact Nat.le_refl _
 | cons x l ih =>
  have := onev_len x.f0 x.f1 x.f2
  show (onev x.f0 x.f1 x.f2 ++ bytesv l).length ≤ x.f2.length + 5 + tot l
  rw [List.length_append]
  omega
theorem bytesv_oct {l : List Note} (hx : ∀ x ∈ l, NoteOk x) (ha : allOk l = true) : Bytes (bytesv l) := by
 induction l with
 | nil => exact Bytes.nil
 | cons x l ih =>
  simp only [allOk, List.all_cons, Bool.and_eq_true, decide_eq_true_eq] at ha
  have h := hx x (List.mem_cons_self ..)
  exact (onev_bytes ha.1.1 h.2.1.1 h.2.2 ha.1.2).append (ih (fun y hy => hx y (List.mem_cons_of_mem _ hy)) (by simpa only [allOk, List.all_eq_true, Bool.and_eq_true, decide_eq_true_eq] using ha.2))
theorem notes_put (m : Int) (wide : Bool) (h0 : 0 ≤ m) (h1 : m < 4294967296) (l : List Item) (hn : l.length ≤ 60) (h : ∀ x ∈ l, mayc x = true ∧ Bytes x.f2) : Ev (fun k => capture_notes_write.f k l m wide) (bytesv (notesv m wide l), 0) := by
 obtain ⟨i1, i2, i3, i4⟩ := notesv_ok m wide l h
 have hg := nw_go m wide h0 h1 l [] h (by rw [List.length_nil]; omega)
 rw [List.nil_append] at hg
 have hp := dput_spec (notesv m wide l) (by omega) i1 (by omega)
 rw [putgo_ok _ _ i2, List.nil_append] at hp
 unfold capture_notes_write.f
 exact Ev.bind hg hp
def eachv (dir : Int) (rows : List (List Int)) (out : List Item) : List Item := rows.foldl (fun o b => itemv o dir b) out
theorem itemv_len (out : List Item) (dir : Int) (b : List Int) : (itemv out dir b).length ≤ out.length + 1 := by
 unfold itemv
 split
 ·rw [List.length_append, List.length_singleton]; omega
 ·omega
theorem each_spec (dir : Int) : ∀ (rows : List (List Int)) (out : List Item), (∀ b ∈ rows, Bytes b ∧ b.length < 140737488355328) → out.length + rows.length ≤ 3000000000000 → Ev (fun k => capture_notes_read.each k dir rows out) (eachv dir rows out)
 | [], out, _, _ => Ev.now _
 | b :: t, out, h, hn => by
  obtain ⟨hb, hl⟩ := h b (by simp)
  rw [List.length_cons] at hn
  have := itemv_len out dir b
  exact Ev.bind (item_spec out dir b hb hl (by omega)) (each_spec dir t (itemv out dir b) (fun y hy => h y (by simp [hy])) (by omega))
theorem eachv_len (dir : Int) : ∀ (rows : List (List Int)) (out : List Item), (eachv dir rows out).length ≤ out.length + rows.length
 | [], out => Nat.le_refl _
 | b :: t, out => by
  have h1 := itemv_len out dir b
  have h2 := eachv_len dir t (itemv out dir b)
  rw [List.length_cons]
  show (eachv dir t (itemv out dir b)).length ≤ _
  omega
theorem eachv_append (dir : Int) (a b : List (List Int)) (out : List Item) : eachv dir (a ++ b) out = eachv dir b (eachv dir a out) := by unfold eachv; rw [List.foldl_append]
/-- s, with nothing done. -/
def bare (s : DF) : DF := { s with done := [] }
theorem feedv_bare (m : Int) (wide : Bool) (s : DF) (a b : List Int) : (feedv m wide s (a ++ b)).done = (feedv m wide s a).done ++ (feedv m wide (bare (feedv m wide s a)) b).done ∧ bare (feedv m wide s (a ++ b)) = bare (feedv m wide (bare (feedv m wide s a)) b) := by
 have e : feedv m wide s (a ++ b) = ahead (feedv m wide s a).done (feedv m wide (bare (feedv m wide s a)) b) := by
  rw [feedv_append]
  conv => lhs; rw [bare_ahead (feedv m wide s a), feedv_ahead]
  rfl
 rw [e]
 exact ⟨rfl, rfl⟩
/-- A stream's parts, read one behind another. -/
theorem go_parts {α : Type} (m : Int) (wide : Bool) (h0 : 0 ≤ m) (h1 : m < 4294967296) (K dir : Int) (H : Nat → List Note → DF → List Item → Option α)
  (hH : ∀ k b t s out, H k (noteof K b :: t) s out = (DF.feed k m wide s b).bind fun s' => (capture_notes_read.each k dir s'.done out).bind fun o => H k t (bare s') o) (rest : List Note) (r : α) :
  ∀ (ps : List (List Int)) (s : DF) (out : List Item), s.done = [] → Bytes s.held → (∀ p ∈ ps, Bytes p) → s.held.length + ps.flatten.length ≤ 1000000000 → out.length + ps.flatten.length ≤ 1000000000 →
   (∀ b ∈ (feedv m wide s ps.flatten).done, Bytes b ∧ b.length < 140737488355328) →
   Ev (fun k => H k rest (bare (feedv m wide s ps.flatten)) (eachv dir (feedv m wide s ps.flatten).done out)) r →
   Ev (fun k => H k (ps.map (noteof K) ++ rest) s out) r
 | [], s, out, hd, hs, hp, hl, ho, hb, hr => by
  have e1 : feedv m wide s ([] : List (List Int)).flatten = s := rfl
  have e2 : bare s = s := by unfold bare; cases s; subst hd; rfl
  rw [e1, e2, hd] at hr
  exact hr
 | p :: ps, s, out, hd, hs, hp, hl, ho, hb, hr => by
  have hbp := hp p (by simp)
  have hh := feedv_held m wide p s hbp hs
  obtain ⟨f1, f2⟩ := feedv_bare m wide s p ps.flatten
  have hds : s.done.length = 0 := by rw [hd]; rfl
  rw [List.flatten_cons, List.length_append] at hl ho
  rw [List.flatten_cons] at hb hr
  rw [f1] at hb hr
  rw [f2] at hr
  rw [eachv_append] at hr
  have hel := eachv_len dir (feedv m wide s p).done out
  refine Ev.congr (f := fun k => (DF.feed k m wide s p).bind fun s' => (capture_notes_read.each k dir s'.done out).bind fun o => H k (ps.map (noteof K) ++ rest) (bare s') o) (fun k => ?_) ?_
  ·rw [List.map_cons, List.cons_append, hH]
  ·refine Ev.bind (feed_spec m wide h0 h1 p s hbp hs (by omega) (by omega)) ?_
   refine Ev.bind (each_spec dir _ out (fun b hx => hb b (List.mem_append_left _ hx)) (by omega)) ?_
   exact go_parts m wide h0 h1 K dir H hH rest r ps (bare (feedv m wide s p)) _ rfl hh.1 (fun q hq => hp q (by simp [hq])) (by show (feedv m wide s p).held.length + _ ≤ _; omega) (by omega) (fun b hx => hb b (List.mem_append_right _ hx)) hr
theorem feedv_inn (m : Int) (wide : Bool) : ∀ (l : List Int) (s : DF), s.inn = true → (feedv m wide s l).inn = true
 | [], s, h => h
 | c :: l, s, h => by
  rw [feedv_cons]
  refine feedv_inn m wide l _ ?_
  unfold stepv
  rw [if_pos h]
  split
  ·exact (closev_held m wide s).2.1.trans h
  ·exact h
/-- A frame between flags: what a state without held bytes comes to. -/
theorem feed_frame (m : Int) (wide : Bool) (x : List Int) (hb : Bytes x) (h2 : 2 ≤ x.length) (h3 : x.length ≤ 65535) (s : DF) (hh : s.held = []) (hd : s.done = []) :
  (feedv m wide s (126 :: framev m wide x)).done = [x] ∧ (feedv m wide s (126 :: framev m wide x)).held = [] := by
 have hout : ∀ c ∈ stuffv (sealv x wide) m, c ≠ 126 := fun c hc => (stuff_out m _ (sealv_bytes hb wide) c hc).1
 constructor
 ·have e := feedv_segs m wide (126 :: framev m wide x) s fun _ => hh
  have e2 : (segs s.inn s.held (126 :: framev m wide x)).foldl (tally m wide) (norm s) = norm (good s x) := by
   rw [hh]
   unfold framev
   cases s.inn with
   | true =>
    rw [segs, if_pos rfl, segs_in _ [] [] hout, List.nil_append, List.foldl_cons, tally_nil, List.foldl_cons, tally_good m wide _ x hb h2 h3]
    rfl
   | false =>
    rw [segs, if_pos rfl, segs_in _ [] [] hout, List.nil_append, List.foldl_cons, tally_good m wide _ x hb h2 h3]
    rfl
  rw [e2] at e
  have f := congrArg (fun u : DF => u.done) e
  have g : (norm (good s x)).done = s.done ++ [x] := rfl
  have g2 : (norm (feedv m wide s (126 :: framev m wide x))).done = (feedv m wide s (126 :: framev m wide x)).done := rfl
  rw [← g2]
  rw [hd, List.nil_append] at g
  rw [← g]
  exact f
 ·unfold framev
  rw [feedv_cons, feedv_append, feedv_cons, feedv_nil]
  have hi : (stepv m wide s 126).inn = true := by
   unfold stepv
   by_cases a : s.inn = true
   ·rw [if_pos a, if_pos rfl]
    exact (closev_held m wide s).2.1.trans a
   ·rw [if_neg a, if_pos rfl]
  have hj := feedv_inn m wide (stuffv (sealv x wide) m) _ hi
  generalize feedv m wide (stepv m wide s 126) (stuffv (sealv x wide) m) = u at hj ⊢
  unfold stepv
  rw [if_pos hj, if_pos rfl]
theorem nr_go (m : Int) (wide : Bool) (h0 : 0 ≤ m) (h1 : m < 4294967296) : ∀ (l : List Item) (s g : DF) (out : List Item), (∀ x ∈ l, mayc x = true ∧ Bytes x.f2) → out.length + l.length ≤ 1000 → s.held = [] → s.done = [] → g.held = [] → g.done = [] →
  Ev (fun k => capture_notes_read.go k m wide (notesv m wide l) s g out) (out ++ l)
 | [], s, g, out, _, _, _, _, _, _ => by rw [notesv, List.append_nil]; exact Ev.now _
 | x :: t, s, g, out, h, hn, hs1, hs2, hg1, hg2 => by
  obtain ⟨hm, hb⟩ := h x (by simp)
  have h2 := mayc_of hm
  have h3 := wholev_len x
  have h4 := streamof_len m wide x hm
  have hwb := wholev_bytes hb
  rw [List.length_cons] at hn
  have hx : (⟨x.f0, x.f1, x.f2⟩ : Item) = x := rfl
  have hsb := streamof_bytes m wide x hb
  have hpf := partsv_flat (streamof m wide x)
  have hpb := partsv_bytes hsb
  have hs1l : s.held.length = 0 := by rw [hs1]; rfl
  have hg1l : g.held.length = 0 := by rw [hg1]; rfl
  rw [notesv]
  rcases h2.1 with e | e
  ·rw [if_pos e]
   obtain ⟨d1, d2⟩ := feed_frame m wide (wholev x) hwb (by omega) (by omega) g hg1 hg2
   have es : streamof m wide x = 126 :: framev m wide (wholev x) := by unfold streamof; rw [if_pos e]
   rw [← es] at d1 d2
   have next := nr_go m wide h0 h1 t s (bare (feedv m wide g (streamof m wide x))) (out ++ [x]) (fun y hy => h y (by simp [hy])) (by rw [List.length_append, List.length_singleton]; omega) hs1 hs2 d2 rfl
   rw [List.append_assoc, List.singleton_append] at next
   refine go_parts m wide h0 h1 2 1 (fun k l g out => capture_notes_read.go k m wide l s g out) (fun k b t g out => ?_) (notesv m wide t) (out ++ x :: t) (partsv (streamof m wide x)) g out hg2 (by rw [hg1]; exact Bytes.nil) hpb (by rw [hpf]; omega) (by rw [hpf]; omega) ?_ ?_
   ·show capture_notes_read.go k m wide (noteof 2 b :: t) s g out = _
    rw [capture_notes_read.go, if_neg (by show ¬ (2 : Int) = 1; decide), if_pos (by show (2 : Int) = 2; rfl)]
    rfl
   ·rw [hpf, d1]
    intro b hbm
    rw [List.mem_singleton.1 hbm]
    exact ⟨hwb, by omega⟩
   ·rw [hpf, d1]
    show Ev (fun k => capture_notes_read.go k m wide (notesv m wide t) s (bare (feedv m wide g (streamof m wide x))) (itemv out 1 (wholev x))) _
    rw [itemv_whole out 1 x hm, ← e, hx]
    exact next
  ·have e1 : ¬ x.f0 = 1 := by omega
   rw [if_neg e1]
   obtain ⟨d1, d2⟩ := feed_frame 0 wide (wholev x) hwb (by omega) (by omega) s hs1 hs2
   have es : streamof m wide x = 126 :: framev 0 wide (wholev x) := by unfold streamof; rw [if_neg e1]
   rw [← es] at d1 d2
   have next := nr_go m wide h0 h1 t (bare (feedv 0 wide s (streamof m wide x))) g (out ++ [x]) (fun y hy => h y (by simp [hy])) (by rw [List.length_append, List.length_singleton]; omega) d2 rfl hg1 hg2
   rw [List.append_assoc, List.singleton_append] at next
   refine go_parts 0 wide (by decide) (by decide) 1 2 (fun k l s out => capture_notes_read.go k m wide l s g out) (fun k b t s out => ?_) (notesv m wide t) (out ++ x :: t) (partsv (streamof m wide x)) s out hs2 (by rw [hs1]; exact Bytes.nil) hpb (by rw [hpf]; omega) (by rw [hpf]; omega) ?_ ?_
   ·show capture_notes_read.go k m wide (noteof 1 b :: t) s g out = _
    rw [capture_notes_read.go, if_pos (by show (1 : Int) = 1; rfl)]
    rfl
   ·rw [hpf, d1]
    intro b hbm
    rw [List.mem_singleton.1 hbm]
    exact ⟨hwb, by omega⟩
   ·rw [hpf, d1]
    show Ev (fun k => capture_notes_read.go k m wide (notesv m wide t) (bare (feedv 0 wide s (streamof m wide x))) g (itemv out 2 (wholev x))) _
    rw [itemv_whole out 2 x hm, ← e, hx]
    exact next
theorem notes_back (m : Int) (wide : Bool) (h0 : 0 ≤ m) (h1 : m < 4294967296) (l : List Item) (hn : l.length ≤ 60) (h : ∀ x ∈ l, mayc x = true ∧ Bytes x.f2) : Ev (fun k => capture_notes_read.f k (bytesv (notesv m wide l)) m wide) (l, 0, 0) := by
 obtain ⟨i1, i2, i3, i4⟩ := notesv_ok m wide l h
 have hlen := bytesv_le (notesv m wide l)
 have hg := nr_go m wide h0 h1 l DF.init DF.init [] h (by rw [List.length_nil]; omega) rfl rfl rfl rfl
 rw [List.nil_append] at hg
 unfold capture_notes_read.f
 refine Ev.bind (dread_spec (bytesv (notesv m wide l)) (bytesv_oct i1 i2) (by omega)) ?_
 rw [readv_bytes (notesv m wide l) i1 i2]
 refine Ev.congr (fun k => if_neg (by simp)) ?_
 exact Ev.bind hg (Ev.now _)
theorem fewc_loop (l : List Item) : ∀ (d i : Nat) (n : Int), l.length - i = d → i ≤ l.length → 0 ≤ n → n ≤ 100000 * i → ∃ b : Bool, Ev (fun k => umpireref11_Few.l0 k l n (i : Int)) b ∧ (b = true → l.length ≤ 60) := by
 intro d
 induction d with
 | zero =>
  intro i n hd hi h0 hn
  by_cases a : (l.length : Int) ≤ 60
  ·refine ⟨decide (n ≤ 70000), Ev.step (f := fun _ => some (decide (n ≤ 70000))) (fun k => ?_) (Ev.now _), fun h => by omega⟩
   rw [umpireref11_Few.l0, if_neg (by omega), if_pos a]
  ·refine ⟨false, Ev.step (f := fun _ => some false) (fun k => ?_) (Ev.now _), fun h => by cases h⟩
   rw [umpireref11_Few.l0, if_neg (by omega), if_neg a]
 | succ d ih =>
  intro i n hd hi h0 hn
  have hlt : i < l.length := by omega
  by_cases c : i < 100
  ·have hm : 0 ≤ mn ((l[i].f2.length : Int)) 100000 ∧ mn ((l[i].f2.length : Int)) 100000 ≤ 100000 := by
    unfold mn
    split <;> omega
   obtain ⟨b, hb, hc⟩ := ih (i + 1) (n + mn ((l[i].f2.length : Int)) 100000) (by omega) (by omega) (by omega) (by omega)
   refine ⟨b, Ev.step (fun k => ?_) hb, hc⟩
   rw [umpireref11_Few.l0, if_pos (by omega), if_pos (by omega), if_pos (by omega), rdI_get l i hlt, w64 (by omega) (by omega), w64 (by omega) (by omega)]
   rfl
  ·by_cases a : (l.length : Int) ≤ 60
   ·omega
   ·refine ⟨false, Ev.step (f := fun _ => some false) (fun k => ?_) (Ev.now _), fun h => by cases h⟩
    rw [umpireref11_Few.l0, if_pos (by omega), if_neg (by omega), if_neg a]
theorem fewc_spec (l : List Item) : ∃ b : Bool, Ev (fun k => umpireref11_Few.f k l) b ∧ (b = true → l.length ≤ 60) := fewc_loop l l.length 0 0 (by omega) (by omega) (by omega) (by omega)
theorem samec_loop (l : List Item) (hl : l.length < 4611686018427387904) : ∀ (d i : Nat), l.length - i = d → i ≤ l.length → Ev (fun k => umpireref11_Same.l0 k l l (i : Int)) true := by
 intro d
 induction d with
 | zero =>
  intro i hd hi
  refine Ev.step (f := fun _ => some true) (fun k => ?_) (Ev.now _)
  rw [umpireref11_Same.l0, if_neg (by omega)]
 | succ d ih =>
  intro i hd hi
  refine Ev.step (f := fun k => umpireref11_Same.l0 k l l ((i + 1 : Nat) : Int)) (fun k => ?_) (ih (i + 1) (by omega) (by omega))
  rw [umpireref11_Same.l0, if_pos (by omega), if_pos (by omega), if_pos (by omega), if_pos rfl, if_pos rfl, if_pos rfl, w64 (by omega) (by omega)]
  rfl
theorem samec_refl (l : List Item) (hl : l.length < 4611686018427387904) : Ev (fun k => umpireref11_Same.f k l l) true := by
 unfold umpireref11_Same.f
 simp only [if_true]
 exact samec_loop l hl _ 0 rfl (by omega)
/-- What is written, by either form, is read as it was. -/
theorem write_one (l : List Item) (hn : l.length ≤ 60) (h : ∀ x ∈ l, mayc x = true ∧ Bytes x.f2) (a0 a1 a2 a3 : Int) (s0 s1 : ByteArray) (dir m : Int) (wide : Bool) :
  Ev (fun k => capture_Write.f k l 1 a0 a1 a2 a3 s0 s1 dir m wide) (recordsv l, 0) ∧ Ev (fun k => capture_Read.f k (recordsv l) 1 a0 a1 a2 a3 s0 s1 dir m wide) (l, 0, 0) := by
 have hi := index_fine l 0 fun x hx => (h x hx).1
 refine ⟨Ev.congr (fun k => ?_) (records_put l hn h), Ev.congr (fun k => ?_) (records_back dir l hn h)⟩
 ·unfold capture_Write.f
  rw [if_pos rfl, hi, Option.bind_some, if_neg (by decide)]
 ·unfold capture_Read.f
  rw [if_pos rfl]
theorem write_two (l : List Item) (hn : l.length ≤ 60) (h : ∀ x ∈ l, mayc x = true ∧ Bytes x.f2) (a0 a1 a2 a3 : Int) (s0 s1 : ByteArray) (dir m : Int) (wide : Bool) (h0 : 0 ≤ m) (h1 : m < 4294967296) :
  Ev (fun k => capture_Write.f k l 2 a0 a1 a2 a3 s0 s1 dir m wide) (bytesv (notesv m wide l), 0) ∧ Ev (fun k => capture_Read.f k (bytesv (notesv m wide l)) 2 a0 a1 a2 a3 s0 s1 dir m wide) (l, 0, 0) := by
 have hi := index_fine l 0 fun x hx => (h x hx).1
 refine ⟨Ev.congr (fun k => ?_) (notes_put m wide h0 h1 l hn h), Ev.congr (fun k => ?_) (notes_back m wide h0 h1 l hn h)⟩
 ·unfold capture_Write.f
  rw [if_neg (by decide), if_pos rfl, hi, Option.bind_some, if_neg (by decide)]
 ·unfold capture_Read.f
  rw [if_neg (by decide), if_pos rfl]
theorem write_spec (form : Int) (hf : form = 1 ∨ form = 2) (l : List Item) (hn : l.length ≤ 60) (h : ∀ x ∈ l, mayc x = true ∧ Bytes x.f2) (a0 a1 a2 a3 : Int) (s0 s1 : ByteArray) (dir m : Int) (wide : Bool) (h0 : 0 ≤ m) (h1 : m < 4294967296) :
  ∃ b, Ev (fun k => capture_Write.f k l form a0 a1 a2 a3 s0 s1 dir m wide) (b, 0) ∧ Ev (fun k => capture_Read.f k b form a0 a1 a2 a3 s0 s1 dir m wide) (l, 0, 0) := by
 rcases hf with rfl | rfl
 ·exact ⟨_, write_one l hn h a0 a1 a2 a3 s0 s1 dir m wide⟩
 ·exact ⟨_, write_two l hn h a0 a1 a2 a3 s0 s1 dir m wide h0 h1⟩
theorem write_bad (form : Int) (hf : form = 1 ∨ form = 2) (l : List Item) (h : ∃ x ∈ l, mayc x = false) (k : Nat) (a0 a1 a2 a3 : Int) (s0 s1 : ByteArray) (dir m : Int) (wide : Bool) :
  capture_Write.f k l form a0 a1 a2 a3 s0 s1 dir m wide = some ([], 1) := by
 obtain ⟨i, h0, hi⟩ := index_bad l 0 h
 unfold capture_Write.f
 rcases hf with rfl | rfl
 ·rw [if_pos rfl, hi, Option.bind_some, if_pos h0]
 ·rw [if_neg (by decide), if_pos rfl, hi, Option.bind_some, if_pos h0]
theorem conf_wf {x : Int} (h : (Lit.int .u32 x).wf = true) : 0 ≤ x ∧ x < 4294967296 := wf_u32 h
theorem data_wf {l : List Int} (h : ∀ x ∈ l, (Lit.int .u8 x).wf = true) : Bytes l := bytes_wf h
def anchor : List Item := [⟨1, 49185, [1, 1, 0, 4]⟩, ⟨2, 33, [122]⟩]
theorem anchor_ok : ∀ x ∈ anchor, mayc x = true ∧ Bytes x.f2 := by
 intro x hx
 have hx' : x = ⟨1, 49185, [1, 1, 0, 4]⟩ ∨ x = ⟨2, 33, [122]⟩ := by
  unfold anchor at hx
  simpa using hx
 rcases hx' with rfl | rfl
 ·exact ⟨by decide, Bytes.cons (by decide) (Bytes.cons (by decide) (Bytes.cons (by decide) (Bytes.cons (by decide) Bytes.nil)))⟩
 ·exact ⟨by decide, Bytes.cons (by decide) Bytes.nil⟩
theorem anchor_len : ((recordsv anchor).length : Int) = 71 := by decide +kernel
theorem awake_cap : Ev (fun k => umpirelaw11_awake.f k) true := by
 obtain ⟨w1, r1⟩ := write_one anchor (by decide) anchor_ok 0 0 0 0 (⟨#[]⟩ : ByteArray) (⟨#[]⟩ : ByteArray) 0 0 false
 obtain ⟨w2, r2⟩ := write_two anchor (by decide) anchor_ok 0 0 0 0 (⟨#[]⟩ : ByteArray) (⟨#[]⟩ : ByteArray) 0 0 false (by decide) (by decide)
 have hs := samec_refl anchor (by decide)
 have hlen := anchor_len
 have w3 : Ev (fun k => capture_Write.f k anchor 3 0 0 0 0 (⟨#[]⟩ : ByteArray) (⟨#[]⟩ : ByteArray) 0 0 false) ([], 7) := Ev.congr (f := fun _ => some ([], 7)) (fun k => rfl) (Ev.now _)
 have w4 : Ev (fun k => capture_Write.f k [(⟨0, 0, []⟩ : Item)] 1 0 0 0 0 (⟨#[]⟩ : ByteArray) (⟨#[]⟩ : ByteArray) 0 0 false) ([], 1) := Ev.congr (f := fun _ => some ([], 1)) (fun k => write_bad 1 (.inl rfl) _ ⟨⟨0, 0, []⟩, by simp, by decide⟩ k 0 0 0 0 _ _ 0 0 false) (Ev.now _)
 have r3 : Ev (fun k => capture_Read.f k (recordsv anchor) 3 0 0 0 0 (⟨#[]⟩ : ByteArray) (⟨#[]⟩ : ByteArray) 0 0 false) ([], 0, 7) := Ev.congr (f := fun _ => some ([], 0, 7)) (fun k => rfl) (Ev.now _)
 unfold umpirelaw11_awake.f
 refine Ev.bind (Ev.now anchor) ?_
 refine Ev.bind w1 (Ev.bind w2 (Ev.bind r1 (Ev.bind r2 ?_)))
 refine Ev.bind w3 (Ev.bind w4 (Ev.bind r3 ?_))
 refine Ev.congr (fun k => if_pos rfl) ?_
 refine Ev.congr (fun k => if_pos rfl) ?_
 refine Ev.congr (fun k => if_pos hlen) ?_
 refine Ev.bind hs ?_
 refine Ev.congr (fun k => if_pos rfl) ?_
 refine Ev.congr (fun k => if_pos rfl) ?_
 refine Ev.bind hs ?_
 refine Ev.congr (fun k => if_pos rfl) ?_
 refine Ev.congr (fun k => if_pos rfl) ?_
 refine Ev.congr (fun k => if_pos rfl) ?_
 refine Ev.congr (fun k => if_pos rfl) ?_
 refine Ev.congr (fun k => if_pos rfl) ?_
 refine Ev.congr (fun k => if_pos (by decide)) ?_
 refine Ev.congr (f := fun _ => some true) (fun k => ?_) (Ev.now _)
 have e : rd_T42 anchor 0 = ⟨1, 49185, [1, 1, 0, 4]⟩ := rfl
 rw [mayc_spec, e]
 rfl
def Rowy (b : List Int) : Prop := Bytes b ∧ b.length ≤ 70000
theorem openv_oct {u : List Int} (hb : Bytes u) (wide : Bool) : Bytes (openv u wide).1 ∧ (openv u wide).1.length ≤ u.length := by
 unfold openv
 split
 ·exact ⟨hb.take _, by rw [List.length_take]; omega⟩
 ·exact ⟨Bytes.nil, Nat.zero_le _⟩
theorem closev_rowy (m : Int) (wide : Bool) (s : DF) (hb : Bytes s.held) (hd : ∀ b ∈ s.done, Rowy b) : ∀ b ∈ (closev m wide s).done, Rowy b := by
 have hu := unstuffv_bytes hb m
 have hz := sizeN_le wide
 have hs := size_df wide
 unfold closev
 split
 ·split
  ·exact hd
  ·split
   ·exact hd
   ·split
    ·exact hd
    ·rename_i h3
     split
     ·intro b hbm
      rcases List.mem_append.1 hbm with h | h
      ·exact hd b h
      ·rw [List.mem_singleton.1 h]
       obtain ⟨o1, o2⟩ := openv_oct hu wide
       exact ⟨o1, by omega⟩
     ·exact hd
 ·exact hd
theorem feedv_rowy (m : Int) (wide : Bool) : ∀ (l : List Int) (s : DF), Bytes l → Bytes s.held → (∀ b ∈ s.done, Rowy b) → ∀ b ∈ (feedv m wide s l).done, Rowy b
 | [], s, _, _, hd => hd
 | c :: l, s, hl, hs, hd => by
  have hc := hl c (by simp)
  have ht : Bytes l := fun x hx => hl x (by simp [hx])
  rw [feedv_cons]
  refine feedv_rowy m wide l _ ht (stepv_bytes hs hc) ?_
  unfold stepv
  split
  ·split
   ·exact closev_rowy m wide s hs hd
   ·exact hd
  ·split
   ·exact hd
   ·exact hd
/-- The items of notes, behind others: two deframers' states. -/
def gov (m : Int) (wide : Bool) : List Note → DF → DF → List Item → List Item
 | [], _, _, out => out
 | x :: t, s, g, out =>
  if x.f0 = 1 then gov m wide t (bare (feedv 0 wide s x.f2)) g (eachv 2 (feedv 0 wide s x.f2).done out)
  else if x.f0 = 2 then gov m wide t s (bare (feedv m wide g x.f2)) (eachv 1 (feedv m wide g x.f2).done out)
  else if x.f0 = 3 then gov m wide t DF.init g out
  else if x.f0 = 4 then gov m wide t s DF.init out
  else gov m wide t s g out
theorem feed_each (m : Int) (wide : Bool) (h0 : 0 ≤ m) (h1 : m < 4294967296) (dir : Int) (s : DF) (b : List Int) (out : List Item) {α : Type} (H : Nat → DF → List Item → Option α) (r : α) (hb : Bytes b) (hd : s.done = []) (hs : Bytes s.held) (hl : s.held.length + b.length ≤ 1000000000) (ho : out.length + b.length ≤ 1000000000)
  (hr : Ev (fun k => H k (bare (feedv m wide s b)) (eachv dir (feedv m wide s b).done out)) r) :
  Ev (fun k => (DF.feed k m wide s b).bind fun s' => (capture_notes_read.each k dir s'.done out).bind fun o => H k (bare s') o) r := by
 have hds : s.done.length = 0 := by rw [hd]; rfl
 have hh := feedv_held m wide b s hb hs
 have hy := feedv_rowy m wide b s hb hs (by rw [hd]; intro x hx; cases hx)
 refine Ev.bind (feed_spec m wide h0 h1 b s hb hs (by omega) (by omega)) ?_
 exact Ev.bind (each_spec dir _ out (fun x hx => ⟨(hy x hx).1, by have := (hy x hx).2; omega⟩) (by omega)) hr
theorem go_spec (m : Int) (wide : Bool) (h0 : 0 ≤ m) (h1 : m < 4294967296) : ∀ (ns : List Note) (s g : DF) (out : List Item), (∀ x ∈ ns, Bytes x.f2) → s.done = [] → g.done = [] → Bytes s.held → Bytes g.held →
  s.held.length + tot ns ≤ 1000000000 → g.held.length + tot ns ≤ 1000000000 → out.length + tot ns ≤ 1000000000 → Ev (fun k => capture_notes_read.go k m wide ns s g out) (gov m wide ns s g out)
 | [], s, g, out, _, _, _, _, _, _, _, _ => Ev.now _
 | x :: t, s, g, out, hn, hs1, hg1, hs2, hg2, hs3, hg3, ho => by
  have hx := hn x (by simp)
  have ht : ∀ y ∈ t, Bytes y.f2 := fun y hy => hn y (by simp [hy])
  simp only [tot] at hs3 hg3 ho
  have i1 : Bytes DF.init.held := Bytes.nil
  have i2 : DF.init.held.length = 0 := rfl
  unfold gov
  unfold capture_notes_read.go
  by_cases a1 : x.f0 = 1
  ·simp only [a1, if_true]
   have hh := feedv_held 0 wide x.f2 s hx hs2
   have hel := eachv_len 2 (feedv 0 wide s x.f2).done out
   have hds : s.done.length = 0 := by rw [hs1]; rfl
   exact feed_each 0 wide (by decide) (by decide) 2 s x.f2 out (fun k s o => capture_notes_read.go k m wide t s g o) _ hx hs1 hs2 (by omega) (by omega)
    (go_spec m wide h0 h1 t (bare (feedv 0 wide s x.f2)) g _ ht rfl hg1 hh.1 hg2 (by show (feedv 0 wide s x.f2).held.length + _ ≤ _; omega) (by omega) (by omega))
  ·rw [if_neg a1]
   refine Ev.congr (fun k => if_neg a1) ?_
   by_cases a2 : x.f0 = 2
   ·simp only [a2, if_true]
    have hh := feedv_held m wide x.f2 g hx hg2
    have hel := eachv_len 1 (feedv m wide g x.f2).done out
    have hdg : g.done.length = 0 := by rw [hg1]; rfl
    exact feed_each m wide h0 h1 1 g x.f2 out (fun k g o => capture_notes_read.go k m wide t s g o) _ hx hg1 hg2 (by omega) (by omega)
     (go_spec m wide h0 h1 t s (bare (feedv m wide g x.f2)) _ ht hs1 rfl hs2 hh.1 (by omega) (by show (feedv m wide g x.f2).held.length + _ ≤ _; omega) (by omega))
   ·rw [if_neg a2]
    refine Ev.congr (fun k => if_neg a2) ?_
    by_cases a3 : x.f0 = 3
    ·rw [if_pos a3]
     refine Ev.congr (fun k => if_pos a3) ?_
     exact go_spec m wide h0 h1 t DF.init g out ht rfl hg1 i1 hg2 (by omega) (by omega) (by omega)
    ·rw [if_neg a3]
     refine Ev.congr (fun k => if_neg a3) ?_
     by_cases a4 : x.f0 = 4
     ·rw [if_pos a4]
      refine Ev.congr (fun k => if_pos a4) ?_
      exact go_spec m wide h0 h1 t s DF.init out ht hs1 rfl hs2 i1 (by omega) (by omega) (by omega)
     ·rw [if_neg a4]
      refine Ev.congr (fun k => if_neg a4) ?_
      exact go_spec m wide h0 h1 t s g out ht hs1 hg1 hs2 hg2 (by omega) (by omega) (by omega)
def junk : Note := ⟨6, 3, []⟩
def cutn (K : Int) (qs : List (List Int)) : List Note := qs.flatMap fun q => [noteof K q, junk]
theorem cutn_cons (K : Int) (q : List Int) (qs : List (List Int)) : cutn K (q :: qs) = noteof K q :: junk :: cutn K qs := rfl
theorem bare_same {s : DF} (h : s.done = []) : bare s = s := by
 unfold bare
 cases s
 subst h
 rfl
theorem gov_junk (m : Int) (wide : Bool) (t : List Note) (s g : DF) (out : List Item) : gov m wide (junk :: t) s g out = gov m wide t s g out := by
 rw [gov, if_neg (by decide), if_neg (by decide), if_neg (by decide), if_neg (by decide)]
theorem gov_one (m : Int) (wide : Bool) (x : Note) (hx : x.f0 = 1) (t : List Note) (s g : DF) (out : List Item) : gov m wide (x :: t) s g out = gov m wide t (bare (feedv 0 wide s x.f2)) g (eachv 2 (feedv 0 wide s x.f2).done out) := by
 rw [gov, if_pos hx]
theorem gov_two (m : Int) (wide : Bool) (x : Note) (hx : x.f0 = 2) (t : List Note) (s g : DF) (out : List Item) : gov m wide (x :: t) s g out = gov m wide t s (bare (feedv m wide g x.f2)) (eachv 1 (feedv m wide g x.f2).done out) := by
 rw [gov, if_neg (by omega), if_pos hx]
theorem gov_cut1 (m : Int) (wide : Bool) (t : List Note) (g : DF) : ∀ (qs : List (List Int)) (s : DF) (out : List Item), s.done = [] →
  gov m wide (cutn 1 qs ++ t) s g out = gov m wide t (bare (feedv 0 wide s qs.flatten)) g (eachv 2 (feedv 0 wide s qs.flatten).done out)
 | [], s, out, h => by
  have e : feedv 0 wide s ([] : List (List Int)).flatten = s := rfl
  rw [e, bare_same h, h]
  rfl
 | q :: qs, s, out, h => by
  obtain ⟨f1, f2⟩ := feedv_bare 0 wide s q qs.flatten
  rw [cutn_cons, List.cons_append, List.cons_append, gov_one m wide _ rfl, gov_junk, List.flatten_cons, f1, f2, eachv_append]
  exact gov_cut1 m wide t g qs (bare (feedv 0 wide s q)) _ rfl
theorem gov_cut2 (m : Int) (wide : Bool) (t : List Note) (s : DF) : ∀ (qs : List (List Int)) (g : DF) (out : List Item), g.done = [] →
  gov m wide (cutn 2 qs ++ t) s g out = gov m wide t s (bare (feedv m wide g qs.flatten)) (eachv 1 (feedv m wide g qs.flatten).done out)
 | [], g, out, h => by
  have e : feedv m wide g ([] : List (List Int)).flatten = g := rfl
  rw [e, bare_same h, h]
  rfl
 | q :: qs, g, out, h => by
  obtain ⟨f1, f2⟩ := feedv_bare m wide g q qs.flatten
  rw [cutn_cons, List.cons_append, List.cons_append, gov_two m wide _ rfl, gov_junk, List.flatten_cons, f1, f2, eachv_append]
  exact gov_cut2 m wide t s qs (bare (feedv m wide g q)) _ rfl
def cutall : List Note → List (List (List Int)) → List Note
 | x :: t, qs :: c => cutn x.f0 qs ++ cutall t c
 | _, _ => []
theorem gov_cutall (m : Int) (wide : Bool) : ∀ (ns : List Note) (css : List (List (List Int))) (s g : DF) (out : List Item), css.map List.flatten = ns.map (fun x => x.f2) → (∀ x ∈ ns, x.f0 = 1 ∨ x.f0 = 2) → s.done = [] → g.done = [] →
  gov m wide (cutall ns css) s g out = gov m wide ns s g out
 | [], css, s, g, out, _, _, _, _ => by
  unfold cutall
  rfl
 | x :: t, [], s, g, out, h, _, _, _ => by simp at h
 | x :: t, qs :: c, s, g, out, h, hk, hs, hg => by
  rw [List.map_cons, List.map_cons, List.cons.injEq] at h
  have hk2 : ∀ y ∈ t, y.f0 = 1 ∨ y.f0 = 2 := fun y hy => hk y (by simp [hy])
  rw [cutall]
  rcases hk x (by simp) with e | e
  ·rw [e, gov_cut1 m wide _ g qs s out hs, gov_one m wide x e, h.1]
   exact gov_cutall m wide t c _ g _ h.2 hk2 rfl hg
  ·rw [e, gov_cut2 m wide _ s qs g out hg, gov_two m wide x e, h.1]
   exact gov_cutall m wide t c s _ _ h.2 hk2 hs rfl
theorem gov_back (m : Int) (wide : Bool) (h0 : 0 ≤ m) (h1 : m < 4294967296) (l : List Item) (hn : l.length ≤ 60) (h : ∀ x ∈ l, mayc x = true ∧ Bytes x.f2) : gov m wide (notesv m wide l) DF.init DF.init [] = l := by
 obtain ⟨i1, i2, i3, i4⟩ := notesv_ok m wide l h
 have hi : DF.init.held.length = 0 := rfl
 have e1 := nr_go m wide h0 h1 l DF.init DF.init [] h (by rw [List.length_nil]; omega) rfl rfl rfl rfl
 have e2 := go_spec m wide h0 h1 (notesv m wide l) DF.init DF.init [] (fun x hx => (i1 x hx).2.2) rfl rfl Bytes.nil Bytes.nil (by omega) (by omega) (by rw [List.length_nil]; omega)
 rw [List.nil_append] at e1
 exact Ev.eq e2 e1
theorem cutn_tot (K : Int) : ∀ qs : List (List Int), tot (cutn K qs) = qs.flatten.length + 10 * qs.length
 | [] => rfl
 | q :: qs => by
  have e1 : (noteof K q).f2.length = q.length := rfl
  have e2 : junk.f2.length = 0 := rfl
  rw [cutn_cons, tot, tot, cutn_tot K qs, e1, e2, List.flatten_cons, List.length_append, List.length_cons]
  omega
theorem cutn_len (K : Int) : ∀ qs : List (List Int), (cutn K qs).length = 2 * qs.length
 | [] => rfl
 | q :: qs => by
  rw [cutn_cons, List.length_cons, List.length_cons, cutn_len K qs, List.length_cons]
  omega
theorem cutall_tot : ∀ (ns : List Note) (css : List (List (List Int))), css.map List.flatten = ns.map (fun x => x.f2) → tot (cutall ns css) ≤ tot ns + 10 * css.flatten.length ∧ (cutall ns css).length = 2 * css.flatten.length
 | [], css, h => by
  have : css = [] := by simpa using h
  subst this
  exact ⟨Nat.le_refl _, rfl⟩
 | x :: t, [], h => by simp at h
 | x :: t, qs :: c, h => by
  rw [List.map_cons, List.map_cons, List.cons.injEq] at h
  obtain ⟨a, b⟩ := cutall_tot t c h.2
  have e := congrArg List.length h.1
  rw [cutall, tot_append, cutn_tot, List.length_append, cutn_len, tot, List.flatten_cons, List.length_append]
  exact ⟨by omega, by omega⟩
theorem flat_mem {qs : List (List Int)} {q : List Int} (h : q ∈ qs) : q.length ≤ qs.flatten.length ∧ ∀ x ∈ q, x ∈ qs.flatten := by
 induction qs with
 | nil => cases h
 | cons p qs ih =>
  rw [List.flatten_cons, List.length_append]
  rcases List.mem_cons.1 h with rfl | h
  ·exact ⟨by omega, fun x hx => List.mem_append_left _ hx⟩
  ·have := ih h
   exact ⟨by omega, fun x hx => List.mem_append_right _ (this.2 x hx)⟩
theorem cutall_ok : ∀ (ns : List Note) (css : List (List (List Int))), css.map List.flatten = ns.map (fun x => x.f2) → (∀ x ∈ ns, x.f0 = 1 ∨ x.f0 = 2) → (∀ x ∈ ns, NoteOk x ∧ x.f2.length ≤ 65535) →
  (∀ y ∈ cutall ns css, NoteOk y) ∧ allOk (cutall ns css) = true
 | [], css, h, _, _ => by
  unfold cutall
  exact ⟨(fun y hy => by cases hy), rfl⟩
 | x :: t, [], h, _, _ => by simp at h
 | x :: t, qs :: c, h, hk, hn => by
  rw [List.map_cons, List.map_cons, List.cons.injEq] at h
  obtain ⟨a, b⟩ := cutall_ok t c h.2 (fun y hy => hk y (by simp [hy])) (fun y hy => hn y (by simp [hy]))
  obtain ⟨n1, n2⟩ := hn x (by simp)
  have hkx := hk x (by simp)
  have hone : ∀ y ∈ cutn x.f0 qs, NoteOk y ∧ (mayv_N y.f0 y.f1 y.f2 && decide (y.f2.length ≤ 65535)) = true := by
   intro y hy
   unfold cutn at hy
   obtain ⟨q, hq, hy⟩ := List.mem_flatMap.1 hy
   have hf := flat_mem hq
   rw [h.1] at hf
   simp only [List.mem_cons, List.not_mem_nil, or_false] at hy
   rcases hy with rfl | rfl
   ·refine ⟨⟨⟨by show _ ≤ x.f0; omega, by show x.f0 ≤ _; omega⟩, ⟨by show (0 : Int) ≤ 0; omega, by show (0 : Int) < _; omega⟩, fun z hz => n1.2.2 z (hf.2 z hz)⟩, ?_⟩
    rw [Bool.and_eq_true, decide_eq_true_iff]
    refine ⟨?_, by show q.length ≤ _; omega⟩
    show mayv_N x.f0 0 q = true
    unfold mayv_N
    rw [if_pos hkx]
    rfl
   ·exact ⟨⟨⟨by decide, by decide⟩, ⟨by decide, by decide⟩, Bytes.nil⟩, by decide⟩
  rw [cutall]
  refine ⟨?_, ?_⟩
  ·intro y hy
   rcases List.mem_append.1 hy with hy | hy
   ·exact (hone y hy).1
   ·exact a y hy
  ·unfold allOk at b ⊢
   rw [List.all_append, b, Bool.and_true, List.all_eq_true]
   exact fun y hy => (hone y hy).2
/-- A dump of notes that are cut finer reads as it did. -/
theorem cut_back (m : Int) (wide : Bool) (h0 : 0 ≤ m) (h1 : m < 4294967296) (l : List Item) (hn : l.length ≤ 60) (h : ∀ x ∈ l, mayc x = true ∧ Bytes x.f2) (css : List (List (List Int))) (hc : css.map List.flatten = (notesv m wide l).map (fun x => x.f2)) (hk : ∀ x ∈ notesv m wide l, x.f0 = 1 ∨ x.f0 = 2) (hl : css.flatten.length ≤ 1000) :
  (∀ y ∈ cutall (notesv m wide l) css, NoteOk y) ∧ allOk (cutall (notesv m wide l) css) = true ∧ tot (cutall (notesv m wide l) css) ≤ 100000000 ∧ Ev (fun k => capture_notes_read.f k (bytesv (cutall (notesv m wide l) css)) m wide) (l, 0, 0) := by
 obtain ⟨i1, i2, i3, i4⟩ := notesv_ok m wide l h
 have hlen : ∀ x ∈ notesv m wide l, NoteOk x ∧ x.f2.length ≤ 65535 := by
  intro x hx
  refine ⟨i1 x hx, ?_⟩
  unfold allOk at i2
  have := (List.all_eq_true.1 i2) x hx
  simp only [Bool.and_eq_true, decide_eq_true_eq] at this
  exact this.2
 obtain ⟨o1, o2⟩ := cutall_ok _ css hc hk hlen
 obtain ⟨t1, t2⟩ := cutall_tot _ css hc
 have hb := bytesv_le (cutall (notesv m wide l) css)
 have hi : DF.init.held.length = 0 := rfl
 have hg := go_spec m wide h0 h1 (cutall (notesv m wide l) css) DF.init DF.init [] (fun x hx => (o1 x hx).2.2) rfl rfl Bytes.nil Bytes.nil (by omega) (by omega) (by rw [List.length_nil]; omega)
 rw [gov_cutall m wide _ css DF.init DF.init [] hc hk rfl rfl, gov_back m wide h0 h1 l hn h] at hg
 refine ⟨o1, o2, by omega, ?_⟩
 unfold capture_notes_read.f
 refine Ev.bind (dread_spec _ (bytesv_oct o1 o2) (by omega)) ?_
 rw [readv_bytes _ o1 o2]
 refine Ev.congr (fun k => if_neg (by simp)) ?_
 exact Ev.bind hg (Ev.now _)
theorem notesv_kinds (m : Int) (wide : Bool) : ∀ (l : List Item), ∀ x ∈ notesv m wide l, x.f0 = 1 ∨ x.f0 = 2
 | [], x, hx => by cases (show x ∈ ([] : List Note) from hx)
 | y :: t, x, hx => by
  rw [notesv] at hx
  rcases List.mem_append.1 hx with hx | hx
  ·obtain ⟨p, hp, rfl⟩ := List.mem_map.1 hx
   show (if y.f0 = 1 then (2 : Int) else 1) = 1 ∨ (if y.f0 = 1 then (2 : Int) else 1) = 2
   split <;> simp
  ·exact notesv_kinds m wide t x hx
theorem roots_c (b : List Int) (hb : Bytes b) (hl : b.length < 3518437208883) (ns : List Note) (h1 : ns.length < 140737488355328) (h2 : ∀ x ∈ ns, NoteOk x) (h3 : tot ns < 140737488355328) : Ev (fun k => umpireref10_Read.f k b) (readv_N b) ∧ Ev (fun k => umpireref10_Put.f k ns) (putgo [] ns) :=
 ⟨rread_spec b hb hl, rput10_spec ns h1 h2 h3⟩
end Go.Proofs.YtgnonglkibhnhaaDoor.Q
