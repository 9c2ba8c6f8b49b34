/- Plain lemmas of this claim. -/
import Derived.Test.YtgnonglkibhnhaaDoorM2
import Derived.Test.YtgnonglkibhnhaaDoorF10
import Derived.Test.YtgnonglkibhnhaaDoorF14
import Derived.Test.YtgnonglkibhnhaaDoorF18
import Derived.Test.YtgnonglkibhnhaaDoorF19
import Derived.Test.YtgnonglkibhnhaaDoorF9
namespace Go.Proofs.YtgnonglkibhnhaaDoor.Q
open Go.RowKit Go.Proofs.YtgnonglkibhnhaaDoor.Print Go.Proofs.YtgnonglkibhnhaaDoorW.PrintWords Go.Proofs.YtgnonglkibhnhaaDoorW.PrintLast Go.Proofs.YtgnonglkibhnhaaDoorW.PrintMore
set_option linter.unusedVariables false
set_option linter.unusedSimpArgs false
theorem wf_u8 {x : Int} (h : (Lit.int .u8 x).wf = true) : 0 ≤ x ∧ x < 256 := by
 simp [Lit.wf, IntKind.min, IntKind.max, IntKind.bits, IntKind.signed] at h; omega
theorem wf_u32 {x : Int} (h : (Lit.int .u32 x).wf = true) : 0 ≤ x ∧ x < 4294967296 := by
 simp [Lit.wf, IntKind.min, IntKind.max, IntKind.bits, IntKind.signed] at h; omega
/-- All are bytes. -/
def Bytes (l : List Int) : Prop := ∀ x ∈ l, 0 ≤ x ∧ x < 256
theorem d7t {l : List Int} (h : ∀ x ∈ l, (Lit.int .u8 x).wf = true) : Bytes l := fun x hx => wf_u8 (h x hx)
theorem Bytes.nil : Bytes [] := fun _ h => by cases h
theorem Bytes.cons {x : Int} {l : List Int} (hx : 0 ≤ x ∧ x < 256) (h : Bytes l) : Bytes (x :: l) := by
 intro y hy
 rcases List.mem_cons.1 hy with rfl | hy
 ·exact hx
 ·exact h y hy
theorem Bytes.append {a b : List Int} (ha : Bytes a) (hb : Bytes b) : Bytes (a ++ b) := fun x hx => (List.mem_append.1 hx).elim (ha x) (hb x)
theorem Bytes.left {a b : List Int} (h : Bytes (a ++ b)) : Bytes a := fun x hx => h x (List.mem_append_left _ hx)
theorem Bytes.right {a b : List Int} (h : Bytes (a ++ b)) : Bytes b := fun x hx => h x (List.mem_append_right _ hx)
theorem Bytes.take {a : List Int} (n : Nat) (h : Bytes a) : Bytes (a.take n) := fun x hx => h x (List.mem_of_mem_take hx)
theorem Bytes.drop {a : List Int} (n : Nat) (h : Bytes a) : Bytes (a.drop n) := fun x hx => h x (List.mem_of_mem_drop hx)
theorem Bytes.reverse {a : List Int} (h : Bytes a) : Bytes a.reverse := fun x hx => h x (List.mem_reverse.1 hx)
theorem Bytes.at {a : List Int} (h : Bytes a) (i : Int) : 0 ≤ rd a i ∧ rd a i < 256 := by
 unfold rd
 rw [List.getD_eq_getElem?_getD]
 rcases Nat.lt_or_ge i.toNat a.length with hi | hi
 ·rw [List.getElem?_eq_getElem hi]
  exact h _ (List.getElem_mem hi)
 ·rw [List.getElem?_eq_none hi]
  exact ⟨by decide, by decide⟩
theorem a8f {a : List Int} (i : Nat) (hi : i < a.length) : rd a (i : Int) = a[i] := by
 unfold rd
 rw [Int.toNat_natCast, List.getD_eq_getElem?_getD, List.getElem?_eq_getElem hi]
 rfl
theorem w64 {x : Int} (h0 : -9223372036854775808 ≤ x) (h1 : x ≤ 9223372036854775807) : wrap64 x = x := by unfold wrap64; omega
theorem wu64 (x : Int) : IntKind.u64.wrap x = x % 18446744073709551616 := by simp [IntKind.wrap, IntKind.bits, IntKind.signed]
theorem b1P {x : Int} (h0 : 0 ≤ x) (h1 : x < 18446744073709551616) : IntKind.u64.wrap x = x := by rw [wu64]; omega
theorem g93 (x : Int) : IntKind.u32.wrap x = x % 4294967296 := by simp [IntKind.wrap, IntKind.bits, IntKind.signed]
theorem d7u {x : Int} (h0 : 0 ≤ x) (h1 : x < 4294967296) : IntKind.u32.wrap x = x := by rw [g93]; omega
theorem c3v {a b : Nat} (ha : a < 4294967296) (hb : b < 4294967296) : Go.bits .and .u32 (a : Int) (b : Int) = ((a &&& b : Nat) : Int) :=
 (bits_nat .u32 32 (by decide) (fun n h0 h1 => d7u h0 (by simpa using h1)) a b (by simpa using ha) (by simpa using hb)).1
theorem c71 {x y : Int} {i : Nat} (hx0 : 0 ≤ x) (hx : x % 2 ^ i = 0) (hx1 : x < 18446744073709551616) (hy0 : 0 ≤ y) (hy : y < 2 ^ i) (hy1 : y < 18446744073709551616) : Go.bits .or .u64 x y = x + y :=
 bits_join .u64 64 (by decide) (fun n h0 h1 => b1P h0 (by simpa using h1)) i x y hx0 hx (by simpa using hx1) hy0 hy (by simpa using hy1)
theorem d1y {x : Int} (h0 : 0 ≤ x) (h1 : x < 4294967296) : Go.bits .and .u32 x 1 = x % 2 := by
 have := bits_mask .u32 32 (by decide) (fun n h0 h1 => d7u h0 (by simpa using h1)) 1 (by decide) x h0 (by simpa using h1)
 simpa using this
theorem b9o (l : List Int) : (strOfNums l).toList = l.map fun n => UInt8.ofNat n.toNat := by
 rw [ByteArray.toList_eq, strOfNums_data]
theorem d7v {x y : Int} (hx : 0 ≤ x ∧ x < 256) (hy : 0 ≤ y ∧ y < 256) (h : UInt8.ofNat x.toNat = UInt8.ofNat y.toNat) : x = y := by
 have := congrArg UInt8.toNat h
 simp only [UInt8.toNat_ofNat'] at this
 omega
theorem d2r {a b : List Int} (ha : Bytes a) (hb : Bytes b) (h : (strOfNums a).toList = (strOfNums b).toList) : a = b := by
 rw [b9o, b9o] at h
 induction a generalizing b with
 | nil =>
  cases b with
  | nil => rfl
  | cons y b => simp at h
 | cons x a ih =>
  cases b with
  | nil => simp at h
  | cons y b =>
   simp only [List.map_cons, List.cons.injEq] at h
   obtain rfl := d7v (ha x (by simp)) (hb y (by simp)) h.1
   rw [ih (fun z hz => ha z (List.mem_cons_of_mem _ hz)) (fun z hz => hb z (List.mem_cons_of_mem _ hz)) h.2]
theorem Ev.at {α : Type} {g : Nat → Option α} {r : α} {K : Nat} (h : ∀ k, K ≤ k → g k = some r) : Ev g r := ⟨K, h⟩
theorem Ev.const {α : Type} {g : Option α} {r : α} (h : g = some r) : Ev (fun _ => g) r := ⟨0, fun _ _ => h⟩
theorem e2Q {k n : Nat} (h : n < k) : ∃ m, k = m + 1 ∧ n ≤ m := ⟨k - 1, by omega, by omega⟩
/-- A number's s bytes, the lowest first. -/
def leb (n : Int) : Nat → List Int
 | 0 => []
 | s + 1 => n % 256 :: leb (n / 256) s
theorem a2T (n : Int) (s : Nat) : (leb n s).length = s := by
 induction s generalizing n with
 | zero => rfl
 | succ s ih => simp [leb, ih]
theorem b5O (n : Int) (s : Nat) : Bytes (leb n s) := by
 induction s generalizing n with
 | zero => exact Bytes.nil
 | succ s ih => exact Bytes.cons (by omega) (ih _)
theorem d1z (n : Int) (s i : Nat) (h : i < (leb n s).length) : (leb n s)[i] = n / 256 ^ i % 256 := by
 induction s generalizing n i with
 | zero => simp [leb] at h
 | succ s ih =>
  cases i with
  | zero => simp [leb]
  | succ i =>
   simp only [leb, List.getElem_cons_succ]
   rw [ih, Int.pow_succ, Int.mul_comm, Int.ediv_ediv_of_nonneg (by decide)]
theorem b9p (n : Int) (s : Nat) : leb n (s + 1) = leb n s ++ [n / 256 ^ s % 256] := by
 apply List.ext_getElem
 ·simp [a2T]
 ·intro i h1 h2
  rw [d1z]
  rw [a2T] at h1
  rcases Nat.lt_or_ge i s with hi | hi
  ·rw [List.getElem_append_left (by rw [a2T]; exact hi), d1z]
  ·obtain rfl : i = s := by omega
   rw [List.getElem_append_right (by rw [a2T]; exact Nat.le_refl _)]
   simp [a2T]
/-- The number whose bytes these are, the highest first. -/
def a0d (l : List Int) : Int := l.foldl (fun a b => a * 256 + b) 0
theorem a6g (l : List Int) (x : Int) : a0d (l ++ [x]) = a0d l * 256 + x := by simp [a0d]
theorem a6q (l : List Int) (h : Bytes l) : 0 ≤ a0d l ∧ a0d l < 256 ^ l.length := by
 suffices ∀ r : List Int, Bytes r.reverse → 0 ≤ a0d r.reverse ∧ a0d r.reverse < 256 ^ r.length by
  have := this l.reverse (by rwa [List.reverse_reverse])
  rwa [List.reverse_reverse, List.length_reverse] at this
 intro r
 induction r with
 | nil => intro _; exact ⟨by decide, by decide⟩
 | cons x r ih =>
  intro hb
  rw [List.reverse_cons] at hb ⊢
  have h1 := ih hb.left
  have h2 := hb.right x (by simp)
  rw [a6g, List.length_cons, Int.pow_succ]
  exact ⟨by omega, by omega⟩
theorem c0M (l : List Int) (h : Bytes l) : leb (a0d l) l.length = l.reverse := by
 suffices ∀ r : List Int, Bytes r.reverse → leb (a0d r.reverse) r.length = r by
  have := this l.reverse (by rwa [List.reverse_reverse])
  rwa [List.reverse_reverse, List.length_reverse] at this
 intro r
 induction r with
 | nil => intro _; rfl
 | cons x r ih =>
  intro hb
  rw [List.reverse_cons] at hb ⊢
  have h2 := hb.right x (by simp)
  rw [a6g, List.length_cons, leb]
  rw [show (a0d r.reverse * 256 + x) % 256 = x by omega, show (a0d r.reverse * 256 + x) / 256 = a0d r.reverse by omega, ih hb.left]
theorem d2s (n : Int) (s : Nat) (h0 : 0 ≤ n) (h1 : n < 256 ^ s) : a0d (leb n s).reverse = n := by
 induction s generalizing n with
 | zero => simp at h1; simp [leb, a0d]; omega
 | succ s ih =>
  rw [leb, List.reverse_cons, a6g, ih (n / 256) (by omega) (by rw [Int.pow_succ] at h1; omega)]
  omega
/-- A number's bytes, in either order. -/
def U2 (n : Int) (s : Nat) (big : Bool) : List Int := if big then (leb n s).reverse else leb n s
theorem H9 (n : Int) (s : Nat) (big : Bool) : (U2 n s big).length = s := by
 unfold U2; split <;> simp [a2T]
theorem b3D (n : Int) (s : Nat) (big : Bool) : Bytes (U2 n s big) := by
 unfold U2; split
 ·exact (b5O n s).reverse
 ·exact b5O n s
/-- Bytes' number, in either order. -/
def a81 (l : List Int) (big : Bool) : Int := a0d (if big then l else l.reverse)
theorem b5P (n : Int) (s : Nat) (big : Bool) (h0 : 0 ≤ n) (h1 : n < 256 ^ s) : a81 (U2 n s big) big = n := by
 unfold a81 U2
 cases big <;> simp [d2s n s h0 h1]
theorem c0N (l : List Int) (big : Bool) (h : Bytes l) : U2 (a81 l big) l.length big = l := by
 unfold a81 U2
 cases big
 ·have := c0M l.reverse h.reverse
  simpa using this
 ·have := c0M l h
  simp [this]
theorem c73 (l : List Int) (big : Bool) (h : Bytes l) : 0 ≤ a81 l big ∧ a81 l big < 256 ^ l.length := by
 unfold a81
 cases big
 ·have := a6q l.reverse h.reverse
  simpa using this
 ·simpa using a6q l h
theorem b0m {i j : Nat} (h : i ≤ j) : (256 : Int) ^ i ≤ 256 ^ j := by
 have h1 : ∀ k : Nat, (256 : Int) ^ k = ((256 ^ k : Nat) : Int) := fun k => (Int.natCast_pow 256 k).symm
 rw [h1, h1]
 exact Int.ofNat_le.2 (Nat.pow_le_pow_right (by decide) h)
theorem d7w : (256 : Int) ^ 8 = 18446744073709551616 := by decide
theorem c57 (i : Nat) : (256 : Int) ^ i = 2 ^ (8 * i) := by
 rw [show (256 : Int) = 2 ^ 8 from rfl, ← Int.pow_mul]
theorem b9q (l : List Int) (h : l.length < 140737488355328) : J6.f l = some l := by
 unfold J6.f
 rw [if_pos h]
/-- What stands behind a place. -/
def d1A (l : List Int) (at_ : Int) : List Int := l.drop at_.toNat
theorem c58 (l : List Int) (at_ : Int) (hl : l.length < 140737488355328) : a4q.f l at_ = some (d1A l at_) := by
 unfold a4q.f d1A
 have h : mn (mx at_ 0) (l.length : Int) = (min at_.toNat l.length : Nat) := by
  unfold mn mx
  split <;> split <;> omega
 rw [h, if_pos (by omega), if_pos (by omega), b9q _ (by rw [List.length_drop]; omega)]
 simp only [Option.bind_some, Int.toNat_natCast]
 congr 1
 rcases Nat.le_total at_.toNat l.length with e | e
 ·rw [Nat.min_eq_left e]
 ·rw [Nat.min_eq_right e, List.drop_of_length_le (Nat.le_refl _), List.drop_of_length_le e]
theorem b9r {n : Int} (h0 : 0 ≤ n) (h1 : n < 2 ^ 63) : IntKind.i64.wrap n = n := by
 rw [IntKind.wrap_i64]
 have : (2 : Int) ^ 63 = 9223372036854775808 := by decide
 omega
theorem e2R {x : Int} (h0 : 0 ≤ x) (h1 : x < 65536) : Go.bits .and .i64 x 1 = x % 2 := by
 have := bits_mask .i64 63 (by decide) (fun n h0 h1 => b9r h0 h1) 1 (by decide) x h0 (Int.lt_trans h1 (by decide))
 simpa using this
theorem c74 {x : Int} (h0 : 0 ≤ x) (h1 : x < 256) : Go.bits .and .u8 x 1 = x % 2 := by
 have := bits_mask .u8 8 (by decide) wraps_u8 1 (by decide) x h0 (by simpa using h1)
 simpa using this
theorem c6a {x : Int} (h0 : 0 ≤ x) (h1 : x < 65536) : (Go.bits .and .i64 x 256 = 0) ↔ x / 256 % 2 = 0 := by
 obtain ⟨n, rfl⟩ := Int.eq_ofNat_of_zero_le h0
 have h := (bits_nat .i64 63 (by decide) (fun n h0 h1 => b9r h0 h1) n 256 (Nat.lt_trans (by omega : n < 65536) (by decide)) (by decide)).1
 have e : ((256 : Nat) : Int) = 256 := rfl
 rw [e] at h
 rw [h]
 have hb : n.testBit 8 = decide (n / 256 % 2 = 1) := Nat.testBit_eq_decide_div_mod_eq
 have ht : (n &&& 256).testBit 8 = n.testBit 8 := by
  rw [Nat.testBit_and, show (256 : Nat) = 2 ^ 8 from rfl, Nat.testBit_two_pow]
  simp
 constructor
 ·intro hz
  have hz' : n &&& 256 = 0 := by omega
  rw [hz', Nat.zero_testBit, hb] at ht
  have : ¬ (n / 256 % 2 = 1) := of_decide_eq_false ht.symm
  omega
 ·intro hz
  have hf : n.testBit 8 = false := by
   rw [hb]
   exact decide_eq_false (by omega)
  have : n &&& 256 = 0 := by
   apply Nat.eq_of_testBit_eq
   intro i
   rw [Nat.testBit_and, show (256 : Nat) = 2 ^ 8 from rfl, Nat.testBit_two_pow, Nat.zero_testBit]
   by_cases c : 8 = i
   ·subst c
    simp [hf]
   ·simp [c]
  rw [this]
  rfl
theorem e2S {a b : Int} (ha : 0 ≤ a ∧ a < 256) (hb : 0 ≤ b ∧ b < 256) : Go.bits .or .i64 (wrap64 (wrap64 a * 256)) (wrap64 b) = 256 * a + b := by
 rw [w64 (x := a) (by omega) (by omega), w64 (x := b) (by omega) (by omega), w64 (x := a * 256) (by omega) (by omega)]
 rw [bits_join .i64 63 (by decide) (fun n h0 h1 => b9r h0 h1) 8 (a * 256) b (by omega) (by omega) (Int.lt_trans (by omega : a * 256 < 65536) (by decide)) hb.1 (by simpa using hb.2) (Int.lt_trans (by omega : b < 65536) (by decide))]
 omega
/-- May a protocol be? -/
def a6h (p : Int) : Bool := decide (1 ≤ p ∧ p ≤ 65535 ∧ p % 2 = 1 ∧ p / 256 % 2 = 0 ∧ p ≠ 255)
theorem b0T (p : Int) : a0a.f p = some (a6h p) := by
 unfold a0a.f a6h
 by_cases a : p ≥ 1
 ·rw [if_pos a]
  by_cases b : p ≤ 65535
  ·rw [if_pos b, e2R (by omega) (by omega)]
   by_cases c : p % 2 = 1
   ·rw [if_pos c]
    by_cases d : p / 256 % 2 = 0
    ·rw [if_pos ((c6a (by omega) (by omega)).2 d)]
     congr 1
     rw [Bool.eq_iff_iff, bne_iff_ne, decide_eq_true_iff]
     exact ⟨fun h => ⟨a, b, c, d, h⟩, fun h => h.2.2.2.2⟩
    ·rw [if_neg (fun h => d ((c6a (by omega) (by omega)).1 h))]
     simp [d]
   ·rw [if_neg c]
    simp [c]
  ·rw [if_neg b]
   simp [b]
 ·rw [if_neg a]
  simp [a]
/-- How a frame begins with a protocol. -/
def a7F (p : Int) (full short : Bool) : List Int := (if full then [255, 3] else []) ++ (if short = true ∧ p < 256 then [p % 256] else [p / 256 % 256, p % 256])
theorem d2t (p : Int) (full short : Bool) : head_Put.f p full short = some (if a6h p then (a7F p full short, 0) else ([], 1)) := by
 unfold head_Put.f
 rw [b0T]
 simp only [Option.bind_some]
 by_cases m : a6h p = true
 ·simp only [m, if_true]
  unfold a7F
  cases full <;> cases short <;> simp
  all_goals (split <;> simp)
 ·simp only [m]
  simp
/-- What stands where a protocol is to stand. -/
def a9A (rest : List Int) (at_ : Int) : Int × Int × Int :=
 match rest with
 | [] => (0, 0, 2)
 | a :: t => if a % 2 = 1 then (if a = 255 then (0, 0, 3) else (a, at_ + 1, 0)) else
  match t with
  | [] => (0, 0, 2)
  | b :: _ => if b % 2 = 0 ∨ (a = 0 ∧ b = 255) then (0, 0, 3) else (256 * a + b, at_ + 2, 0)
/-- The beginning of a frame. -/
def a8w (l : List Int) : Int × Int × Int :=
 match l with
 | [] => (0, 0, 2)
 | a :: t => if a = 255 then (match t with | [] => (0, 0, 2) | b :: r => if b = 3 then a9A r 2 else (0, 0, 3)) else a9A (a :: t) 0
theorem rd0 (a : Int) (t : List Int) : rd (a :: t) 0 = a := rfl
theorem rd1 (a b : Int) (t : List Int) : rd (a :: b :: t) 1 = b := rfl
theorem d7x {a : Int} (h : 0 ≤ a ∧ a < 256) (o : a % 2 = 1) : a6h a = decide (a ≠ 255) := by
 unfold a6h
 rw [Bool.eq_iff_iff, decide_eq_true_iff, decide_eq_true_iff]
 omega
theorem e2T {a b : Int} (ha : 0 ≤ a ∧ a < 256) (hb : 0 ≤ b ∧ b < 256) (e : a % 2 ≠ 1) : a6h (256 * a + b) = decide (¬ (b % 2 = 0 ∨ (a = 0 ∧ b = 255))) := by
 unfold a6h
 rw [Bool.eq_iff_iff, decide_eq_true_iff, decide_eq_true_iff]
 omega
theorem e2U (at_ : Int) (h0 : 0 ≤ at_) (h1 : at_ ≤ 2) (a : Int) (t : List Int) (hb : Bytes (a :: t)) : Ev (fun k => head_Read.j0 k at_ (a :: t) (decide (a % 2 = 1 ∧ a ≠ 255))) (a9A (a :: t) at_) := by
 have ha := hb a (by simp)
 refine Ev.step (f := fun _ => some (a9A (a :: t) at_)) (fun k => ?_) (Ev.now _)
 rw [head_Read.j0]
 unfold a9A
 by_cases o : a % 2 = 1
 ·by_cases f : a = 255
  ·subst f
   simp [rd0, c74]
  ·rw [if_pos (by simpa using ⟨o, f⟩), if_pos (by simp <;> omega), rd0, w64 (by omega) (by omega), w64 (by omega) (by omega)]
   simp [o, f]
 ·rw [if_neg (by simp [o]), if_pos (by simp <;> omega), rd0, c74 ha.1 ha.2, if_neg o]
  cases t with
  | nil => simp [o]
  | cons b r =>
   have hbb := hb b (by simp)
   rw [if_neg (by simp <;> omega), if_pos (by simp <;> omega), rd1, e2S ha hbb, b0T, e2T ha hbb o]
   simp only [Option.bind_some]
   by_cases c : b % 2 = 0 ∨ (a = 0 ∧ b = 255)
   ·simp [c, o]
   ·simp only [c, o, not_false_eq_true, decide_true, if_true, if_false]
    rw [w64 (by omega) (by omega)]
theorem c77 (l : List Int) : a2R.f l = some (match l with | [] => (0, 2) | a :: t => if a = 255 then (match t with | [] => (0, 2) | b :: _ => if b = 3 then (2, 0) else (0, 3)) else (0, 0)) := by
 unfold a2R.f
 cases l with
 | nil => rfl
 | cons a t =>
  rw [if_neg (by simp <;> omega), if_pos (by simp <;> omega), rd0]
  by_cases c : a = 255
  ·rw [if_pos c]
   cases t with
   | nil => simp [c]
   | cons b r =>
    rw [if_neg (by simp <;> omega), if_pos (by simp <;> omega), rd1]
    by_cases d : b = 3 <;> simp [c, d]
  ·rw [if_neg c]
   simp [c]
theorem c0O (l rest : List Int) (at_ : Nat) (hr : l.drop at_ = rest) (hat : at_ ≤ 2) (hal : at_ ≤ l.length) (hb : Bytes rest)
  (hf : a2R.f l = some ((at_ : Int), 0)) : Ev (fun k => head_Read.f k l) (a9A rest at_) := by
 unfold head_Read.f
 rw [hf]
 simp only [Option.bind_some, if_true, show (0 : Int) ≤ (at_ : Int) by omega, show (at_ : Int) ≤ (l.length : Int) by omega, Int.toNat_natCast, hr]
 cases rest with
 | nil =>
  simp only [List.length_nil, show ((0 : Nat) : Int) = 0 from rfl, if_true]
  exact Ev.now _
 | cons a t =>
  have ha := hb a (by simp)
  have hj := e2U (at_ : Int) (by omega) (by omega) a t hb
  simp only [show ¬ (((a :: t).length : Int) = 0) by simp <;> omega, show (0 : Int) < ((a :: t).length : Int) by simp <;> omega, if_true, if_false, rd0, c74 ha.1 ha.2]
  by_cases o : a % 2 = 1
  ·simp only [o, if_true, w64 (x := a) (by omega) (by omega), b0T, Option.bind_some, d7x ha o]
   simp only [o, true_and] at hj
   exact hj
  ·simp only [o, if_false]
   simp only [o, false_and, decide_false] at hj
   exact hj
theorem c6b (l : List Int) (hb : Bytes l) : Ev (fun k => head_Read.f k l) (a8w l) := by
 have hf := c77 l
 have no : ∀ e : Int, e ≠ 0 → a2R.f l = some (0, e) → Ev (fun k => head_Read.f k l) (0, 0, e) := by
  intro e he h
  unfold head_Read.f
  rw [h]
  simp only [Option.bind_some, he, if_false]
  exact Ev.now _
 cases l with
 | nil => exact no 2 (by decide) hf
 | cons a t =>
  unfold a8w
  by_cases c : a = 255
  ·simp only [c, if_true] at hf ⊢
   cases t with
   | nil => subst c; exact no 2 (by decide) hf
   | cons b r =>
    by_cases d : b = 3
    ·simp only [d, if_true] at hf ⊢
     subst c d
     exact c0O _ r 2 rfl (by decide) (by simp) (fun x hx => hb x (by simp [hx])) hf
    ·simp only [d, if_false] at hf ⊢
     subst c
     exact no 3 (by decide) hf
  ·simp only [c, if_false] at hf ⊢
   exact c0O _ (a :: t) 0 rfl (by decide) (by simp) hb hf
/-- A frame's protocol, and what it carries. -/
def b6h (l : List Int) : Int × List Int × Int := if (a8w l).2.2 = 0 then ((a8w l).1, l.drop (a8w l).2.1.toNat, 0) else (0, [], (a8w l).2.2)
theorem d2u (l : List Int) (hb : Bytes l) (hl : l.length < 140737488355328) : Ev (fun k => a1t.f k l) (b6h l) := by
 unfold a1t.f b6h
 refine Ev.bind (c6b l hb) ?_
 by_cases c : (a8w l).2.2 = 0
 ·simp only [c, if_true, c58 l _ hl, Option.bind_some]
  exact Ev.now _
 ·simp only [c, if_false]
  exact Ev.now _
/-- Is the character in the map? -/
def a9Q (m c : Int) : Bool := decide (c < 32) && m.toNat.testBit c.toNat
theorem toNat_div (m : Int) (h : 0 ≤ m) (j : Nat) : (m / 2 ^ j) = ((m.toNat / 2 ^ j : Nat) : Int) := by
 obtain ⟨n, rfl⟩ := Int.eq_ofNat_of_zero_le h
 simp
theorem f0l (m : Int) (h : 0 ≤ m) (j : Nat) : ((m / 2 ^ j) % 2 == 1) = m.toNat.testBit j := by
 rw [Nat.testBit_eq_decide_div_mod_eq, toNat_div m h]
 rw [Bool.eq_iff_iff, beq_iff_eq, decide_eq_true_iff]
 omega
theorem b1Q (m c : Int) (h0 : 0 ≤ m) (h1 : m < 4294967296) (hc : 0 ≤ c) : a4z.f m c = some (a9Q m c) := by
 unfold a4z.f a9Q
 by_cases a : c < 32
 ·rw [if_pos a, if_pos hc]
  have hs : shr .u32 m c = m / 2 ^ c.toNat := by
   unfold shr
   rw [Nat.min_eq_left (by simp [IntKind.bits]; omega)]
  have hq0 : 0 ≤ m / 2 ^ c.toNat := Int.ediv_nonneg h0 (Int.le_of_lt (Int.pow_pos (by decide)))
  have hq1 : m / 2 ^ c.toNat ≤ m := Int.ediv_le_self _ h0
  rw [hs, d1y hq0 (by omega), f0l m h0]
  simp [a]
 ·rw [if_neg a]
  simp [a]
/-- Is the byte told apart? -/
def b0U (m c : Int) : Bool := decide (c = 125) || (decide (c = 126) || a9Q m c)
theorem apart_spec (m c : Int) (h0 : 0 ≤ m) (h1 : m < 4294967296) (hc : 0 ≤ c) : a2o.f m c = some (b0U m c) := by
 unfold a2o.f b0U
 rw [b1Q m c h0 h1 hc]
 by_cases a : c = 125
 ·simp [a]
 ·by_cases b : c = 126
  ·simp [b]
  ·simp [a, b]
/-- A byte, turned. -/
def a8m (c : Int) : Int := Go.bits .xor .u8 c 32
theorem a8B (n : Nat) (h : n < 256) : a8m (n : Int) = ((n ^^^ 32 : Nat) : Int) := by
 have h1 : n ^^^ 32 < 2 ^ 8 := Nat.xor_lt_two_pow (by simpa using h) (by decide)
 have e2 : (BitVec.ofNat 8 n ^^^ 32#8).toNat = n ^^^ 32 := by
  rw [BitVec.toNat_xor, BitVec.toNat_ofNat, Nat.mod_eq_of_lt (show n < 2 ^ 8 by simpa using h)]
  rfl
 have e3 := wraps_u8 (((n ^^^ 32 : Nat) : Int)) (by omega) (by exact_mod_cast h1)
 rw [← e2] at e3
 rw [← e2]
 exact e3
theorem b6i {c : Int} (h : 0 ≤ c ∧ c < 256) : 0 ≤ a8m c ∧ a8m c < 256 := by
 obtain ⟨n, rfl⟩ := Int.eq_ofNat_of_zero_le h.1
 have h1 : n ^^^ 32 < 2 ^ 8 := Nat.xor_lt_two_pow (by omega) (by decide)
 rw [a8B n (by omega)]
 omega
theorem c6c {c : Int} (h : 0 ≤ c ∧ c < 256) : a8m (a8m c) = c := by
 obtain ⟨n, rfl⟩ := Int.eq_ofNat_of_zero_le h.1
 have h1 : n ^^^ 32 < 2 ^ 8 := Nat.xor_lt_two_pow (by omega) (by decide)
 rw [a8B n (by omega), a8B _ (by omega), Nat.xor_assoc, Nat.xor_self, Nat.xor_zero]
/-- What a byte is, stuffed. -/
def a8g (m c : Int) : List Int := if b0U m c = true then [125, a8m c] else [c]
/-- Bytes, stuffed. -/
def a2x (l : List Int) (m : Int) : List Int := (l.map (a8g m)).flatten
theorem d7y (m c : Int) (h0 : 0 ≤ m) (h1 : m < 4294967296) (hc : 0 ≤ c) : D9.piece m c = a8g m c := by
 unfold D9.piece a8g a8m
 rw [apart_spec m c h0 h1 hc]
 rfl
theorem c78 (m c : Int) : 1 ≤ (a8g m c).length ∧ (a8g m c).length ≤ 2 := by
 unfold a8g
 split <;> simp
theorem c8a (m : Int) : a2x [] m = [] := rfl
theorem a9B (c : Int) (l : List Int) (m : Int) : a2x (c :: l) m = a8g m c ++ a2x l m := by simp [a2x]
theorem b9s (l : List Int) (m : Int) : l.length ≤ (a2x l m).length ∧ (a2x l m).length ≤ 2 * l.length := by
 induction l with
 | nil => simp [a2x]
 | cons c l ih =>
  have := c78 m c
  rw [a9B, List.length_append, List.length_cons]
  omega
theorem c3w {l : List Int} (h : Bytes l) (m : Int) : Bytes (a2x l m) := by
 induction l with
 | nil => exact Bytes.nil
 | cons c l ih =>
  rw [a9B]
  refine Bytes.append ?_ (ih (fun x hx => h x (by simp [hx])))
  have hc := h c (by simp)
  unfold a8g
  split
  ·exact Bytes.cons (by omega) (Bytes.cons (b6i hc) Bytes.nil)
  ·exact Bytes.cons hc Bytes.nil
theorem c8b (l : List Int) (m : Int) (hb : Bytes l) (h0 : 0 ≤ m) (h1 : m < 4294967296) (hl : l.length < 70368744177664) : D9.f l m = some (a2x l m) := by
 have hm : l.map (D9.piece m) = l.map (a8g m) := List.map_congr_left (fun c hc => d7y m c h0 h1 (hb c hc).1)
 have := (b9s l m).2
 unfold D9.f
 rw [hm]
 rw [if_pos]
 ·rfl
 ·refine ⟨List.all_eq_true.2 (fun c hc => ?_), by unfold a2x at this; omega⟩
  rw [apart_spec m c h0 h1 (hb c hc).1]
  rfl
/-- Bytes, unstuffed: whether one stands behind 0x7d; what came so far. -/
def b0V (m : Int) : List Int → Bool → List Int → List Int × Bool
 | [], b, acc => if b then ([], false) else (acc, true)
 | c :: t, b, acc => if c = 126 then ([], false) else if a9Q m c = true then b0V m t b acc else if b then b0V m t false (acc ++ [a8m c]) else if c = 125 then b0V m t true acc else b0V m t b (acc ++ [c])
def a2g (l : List Int) (m : Int) : List Int × Bool := b0V m l false []
theorem d2v (m : Int) (h0 : 0 ≤ m) (h1 : m < 4294967296) (l : List Int) (hb : Bytes l) (hl : l.length < 70368744177664) (d : Nat) : ∀ (i : Nat) (b : Bool) (acc : List Int), l.length - i = d → i ≤ l.length → acc.length ≤ i →
  Ev (fun k => U0.l0 k m acc b l (l.length : Int) (i : Int)) (b0V m (l.drop i) b acc) := by
 induction d with
 | zero =>
  intro i b acc hd hi ha
  refine Ev.step (f := fun _ => some (b0V m (l.drop i) b acc)) (fun k => ?_) (Ev.now _)
  rw [U0.l0, if_neg (by omega), List.drop_of_length_le (by omega)]
  unfold b0V
  cases b <;> simp
 | succ d ih =>
  intro i b acc hd hi ha
  have hil : i < l.length := by omega
  have hc := hb _ (List.getElem_mem hil)
  rw [List.drop_eq_getElem_cons hil]
  unfold b0V
  by_cases e1 : l[i] = 126
  ·refine Ev.step (f := fun _ => some (([] : List Int), false)) (fun k => ?_) ?_
   ·rw [U0.l0, if_pos (by omega), if_pos (by omega), if_pos (by omega), a8f i hil, if_pos e1]
   ·rw [if_pos e1]
    exact Ev.now _
  ·rw [if_neg e1]
   by_cases e2 : a9Q m l[i] = true
   ·rw [if_pos e2]
    refine Ev.step (fun k => ?_) (ih (i + 1) b acc (by omega) (by omega) (by omega))
    rw [U0.l0, if_pos (by omega), if_pos (by omega), if_pos (by omega), a8f i hil, if_neg e1, b1Q m _ h0 h1 hc.1]
    simp only [Option.bind_some, e2, if_true]
    rw [w64 (by omega) (by omega)]
    rfl
   ·rw [if_neg e2]
    by_cases e3 : b = true
    ·rw [if_pos e3]
     refine Ev.step (fun k => ?_) (ih (i + 1) false (acc ++ [a8m l[i]]) (by omega) (by omega) (by simp; omega))
     rw [U0.l0, if_pos (by omega), if_pos (by omega), if_pos (by omega), a8f i hil, if_neg e1, b1Q m _ h0 h1 hc.1]
     simp only [Option.bind_some, e2, e3, Bool.false_eq_true, if_true, if_false]
     rw [if_pos (by omega), w64 (by omega) (by omega)]
     rfl
    ·rw [if_neg e3]
     by_cases e4 : l[i] = 125
     ·rw [if_pos e4]
      refine Ev.step (fun k => ?_) (ih (i + 1) true acc (by omega) (by omega) (by omega))
      rw [U0.l0, if_pos (by omega), if_pos (by omega), if_pos (by omega), a8f i hil, if_neg e1, b1Q m _ h0 h1 hc.1]
      simp only [Option.bind_some, e2, e3, e4, Bool.false_eq_true, if_true, if_false]
      rw [w64 (by omega) (by omega)]
      rfl
     ·rw [if_neg e4]
      refine Ev.step (fun k => ?_) (ih (i + 1) b (acc ++ [l[i]]) (by omega) (by omega) (by simp; omega))
      rw [U0.l0, if_pos (by omega), if_pos (by omega), if_pos (by omega), a8f i hil, if_neg e1, b1Q m _ h0 h1 hc.1]
      simp only [Option.bind_some, e2, e3, e4, Bool.false_eq_true, if_true, if_false]
      rw [if_pos (by omega), w64 (by omega) (by omega)]
      rfl
theorem c3x (l : List Int) (m : Int) (hb : Bytes l) (h0 : 0 ≤ m) (h1 : m < 4294967296) (hl : l.length < 70368744177664) : Ev (fun k => U0.f k l m) (a2g l m) := by
 have := d2v m h0 h1 l hb hl l.length 0 false [] (by omega) (by omega) (by simp)
 exact this
/-- What the reference makes of bytes of which the map's are left out. -/
def b1R : List Int → List Int → List Int × Bool
 | [], acc => (acc, true)
 | c :: t, acc => if c = 126 then ([], false) else if c = 125 then (match t with | [] => ([], false) | d :: t' => if d = 126 then ([], false) else b1R t' (acc ++ [a8m d])) else b1R t (acc ++ [c])
theorem a88 (c : Int) (t acc : List Int) : b1R (c :: t) acc = if c = 126 then ([], false) else if c = 125 then (match t with | [] => ([], false) | d :: t' => if d = 126 then ([], false) else b1R t' (acc ++ [a8m d])) else b1R t (acc ++ [c]) := by
 conv => lhs; rw [b1R.eq_def]
theorem b2q (m c : Int) (h : 32 ≤ c) : a9Q m c = false := by
 unfold a9Q
 rw [show decide (c < 32) = false by apply decide_eq_false; omega]
 rfl
theorem c8c (m : Int) (l : List Int) : (∀ acc, b0V m l false acc = b1R (l.filter fun c => !a9Q m c) acc) ∧
  (∀ acc, b0V m l true acc = match (l.filter fun c => !a9Q m c) with | [] => ([], false) | d :: t => if d = 126 then ([], false) else b1R t (acc ++ [a8m d])) := by
 induction l with
 | nil => exact ⟨fun acc => by simp [b0V, b1R], fun acc => by simp [b0V]⟩
 | cons c t ih =>
  constructor
  ·intro acc
   unfold b0V
   by_cases e1 : c = 126
   ·have := b2q m c (by omega)
    rw [if_pos e1, List.filter_cons, this]
    simp only [Bool.not_false, if_true]
    rw [a88, if_pos e1]
   ·rw [if_neg e1]
    by_cases e2 : a9Q m c = true
    ·rw [if_pos e2, List.filter_cons, e2]
     simp only [Bool.not_true, Bool.false_eq_true, if_false]
     exact ih.1 acc
    ·have e2' : a9Q m c = false := by simpa using e2
     rw [if_neg e2, List.filter_cons, e2']
     simp only [Bool.not_false, if_true, Bool.false_eq_true, if_false]
     by_cases e3 : c = 125
     ·rw [if_pos e3, a88, if_neg e1, if_pos e3, ih.2 acc]
     ·rw [if_neg e3, a88, if_neg e1, if_neg e3, ih.1]
  ·intro acc
   unfold b0V
   by_cases e1 : c = 126
   ·have := b2q m c (by omega)
    rw [if_pos e1, List.filter_cons, this]
    simp only [Bool.not_false, if_true, e1]
   ·rw [if_neg e1]
    by_cases e2 : a9Q m c = true
    ·rw [if_pos e2, List.filter_cons, e2]
     simp only [Bool.not_true, Bool.false_eq_true, if_false]
     exact ih.2 acc
    ·have e2' : a9Q m c = false := by simpa using e2
     rw [if_neg e2, List.filter_cons, e2']
     simp only [Bool.not_false, if_true, e1, if_false]
     exact ih.1 _
theorem d2w {c : Int} (hc : 0 ≤ c ∧ c < 32) : 32 ≤ a8m c ∧ a8m c < 64 := by
 obtain ⟨n, rfl⟩ := Int.eq_ofNat_of_zero_le hc.1
 have h : ∀ n : Nat, n < 32 → 32 ≤ n ^^^ 32 ∧ n ^^^ 32 < 64 := by decide
 have := h n (by omega)
 rw [a8B n (by omega)]
 omega
theorem c6d (m c : Int) (hc : 0 ≤ c ∧ c < 256) (a : b0U m c = true) : 32 ≤ a8m c ∧ a8m c ≠ 126 := by
 unfold b0U at a
 simp only [Bool.or_eq_true, decide_eq_true_eq] at a
 rcases a with a | a | a
 ·subst a
  have := a8B 125 (by decide)
  rw [show ((125 : Int)) = ((125 : Nat) : Int) from rfl, this]
  decide
 ·subst a
  have := a8B 126 (by decide)
  rw [show ((126 : Int)) = ((126 : Nat) : Int) from rfl, this]
  decide
 ·unfold a9Q at a
  simp only [Bool.and_eq_true, decide_eq_true_eq] at a
  have := d2w ⟨hc.1, a.1⟩
  omega
theorem d2x (m c : Int) (hc : 0 ≤ c ∧ c < 256) : ∀ x ∈ a8g m c, x ≠ 126 ∧ a9Q m x = false := by
 intro x hx
 unfold a8g at hx
 by_cases a : b0U m c = true
 ·rw [if_pos a] at hx
  have ht := c6d m c hc a
  rcases List.mem_cons.1 hx with rfl | hx
  ·exact ⟨by decide, b2q m 125 (by decide)⟩
  ·rcases List.mem_cons.1 hx with rfl | hx
   ·exact ⟨ht.2, b2q m _ ht.1⟩
   ·cases hx
 ·rw [if_neg a] at hx
  rcases List.mem_cons.1 hx with rfl | hx
  ·unfold b0U at a
   simp only [Bool.or_eq_true, decide_eq_true_eq, not_or] at a
   exact ⟨a.2.1, by simpa using a.2.2⟩
  ·cases hx
theorem c0P (m : Int) (l : List Int) (hb : Bytes l) : ∀ x ∈ a2x l m, x ≠ 126 ∧ a9Q m x = false := by
 induction l with
 | nil => intro x hx; cases hx
 | cons c l ih =>
  intro x hx
  rw [a9B] at hx
  rcases List.mem_append.1 hx with hx | hx
  ·exact d2x m c (hb c (by simp)) x hx
  ·exact ih (fun y hy => hb y (by simp [hy])) x hx
theorem c6e (m : Int) (l : List Int) (hb : Bytes l) : ∀ acc, b1R (a2x l m) acc = (acc ++ l, true) := by
 induction l with
 | nil => intro acc; rw [c8a, b1R, List.append_nil]
 | cons c l ih =>
  intro acc
  have hc := hb c (by simp)
  have ih := ih (fun y hy => hb y (by simp [hy]))
  rw [a9B]
  unfold a8g
  by_cases a : b0U m c = true
  ·have ht := c6d m c hc a
   rw [if_pos a, List.cons_append, List.cons_append, List.nil_append, a88, if_neg (by decide), if_pos rfl]
   dsimp only
   rw [if_neg ht.2, c6c hc, ih, List.append_assoc]
   rfl
  ·have a' := a
   unfold b0U at a'
   simp only [Bool.or_eq_true, decide_eq_true_eq, not_or] at a'
   rw [if_neg a, List.cons_append, List.nil_append, a88, if_neg a'.2.1, if_neg a'.1, ih, List.append_assoc]
   rfl
/-- Bytes that are a stuffed text but for characters of a map come back. -/
theorem e2V (m n : Int) (l y : List Int) (hb : Bytes l) (h : (y.filter fun c => !a9Q n c) = a2x l m) : a2g y n = (l, true) := by
 unfold a2g
 rw [(c8c n y).1 [], h, c6e m l hb [], List.nil_append]
theorem d7z (m n : Int) (l : List Int) (hb : Bytes l) (hs : ∀ c, a9Q n c = true → a9Q m c = true) : ((a2x l m).filter fun c => !a9Q n c) = a2x l m := by
 rw [List.filter_eq_self]
 intro c hc
 have := (c0P m l hb c hc).2
 by_cases h : a9Q n c = true
 ·rw [hs c h] at this
  cases this
 ·simpa using h
/-- One bit goes out of the register. -/
def S (p n : Nat) : Nat := if n % 2 = 1 then (n / 2) ^^^ p else n / 2
def Sn (p : Nat) : Nat → Nat → Nat
 | 0, n => n
 | k + 1, n => S p (Sn p k n)
theorem d7A (a b : Nat) : (a ^^^ b) / 2 = (a / 2) ^^^ (b / 2) := by
 apply Nat.eq_of_testBit_eq
 intro i
 simp [Nat.testBit_xor, ← Nat.testBit_succ]
theorem e2W (a b : Nat) : ((a ^^^ b) % 2 = 1) ↔ ¬ ((a % 2 = 1) ↔ (b % 2 = 1)) := by
 have h : ∀ n : Nat, (n % 2 = 1) ↔ n.testBit 0 = true := fun n => by simp [Nat.testBit_zero]
 rw [h, h, h, Nat.testBit_xor]
 cases a.testBit 0 <;> cases b.testBit 0 <;> simp
theorem f9e (p a b : Nat) : S p (a ^^^ b) = S p a ^^^ S p b := by
 unfold S
 have h := e2W a b
 rw [d7A]
 by_cases ha : a % 2 = 1 <;> by_cases hb : b % 2 = 1
 ·rw [if_neg (by rw [h]; simp [ha, hb]), if_pos ha, if_pos hb]
  rw [Nat.xor_assoc, ← Nat.xor_assoc p, Nat.xor_comm p, Nat.xor_assoc (b / 2), Nat.xor_self, Nat.xor_zero]
 ·rw [if_pos (by rw [h]; simp [ha, hb]), if_pos ha, if_neg hb, Nat.xor_assoc, Nat.xor_assoc, Nat.xor_comm p]
 ·rw [if_pos (by rw [h]; simp [ha, hb]), if_neg ha, if_pos hb, Nat.xor_assoc]
 ·rw [if_neg (by rw [h]; simp [ha, hb]), if_neg ha, if_neg hb]
theorem c8d (p k a b : Nat) : Sn p k (a ^^^ b) = Sn p k a ^^^ Sn p k b := by
 induction k with
 | zero => rfl
 | succ k ih => rw [Sn, ih, f9e]; rfl
theorem f0m (p a b n : Nat) : Sn p (a + b) n = Sn p b (Sn p a n) := by
 induction b with
 | zero => rfl
 | succ b ih => rw [← Nat.add_assoc, Sn, ih]; rfl
theorem f9f (p n : Nat) : S p (n * 2) = n := by
 unfold S
 rw [if_neg (by omega)]
 omega
theorem c6f (p k n : Nat) : Sn p k (n * 2 ^ k) = n := by
 induction k generalizing n with
 | zero => simp [Sn]
 | succ k ih => rw [Sn, Nat.pow_succ, show n * (2 ^ k * 2) = n * 2 * 2 ^ k by rw [Nat.mul_comm (2 ^ k), Nat.mul_assoc], ih, f9f]
theorem b5Q (n k : Nat) : (n % 2 ^ k) ^^^ (n / 2 ^ k * 2 ^ k) = n := by
 apply Nat.eq_of_testBit_eq
 intro i
 rw [Nat.testBit_xor, Nat.testBit_mod_two_pow, Nat.testBit_mul_two_pow]
 by_cases h : i < k
 ·simp [h, Nat.not_le.2 h]
 ·have h' : k ≤ i := by omega
  simp [h, h', Nat.testBit_div_two_pow, Nat.sub_add_cancel h', Nat.add_sub_cancel' h']
theorem d1B {a k : Nat} (b : Nat) (h : a < 2 ^ k) : a + b * 2 ^ k = a ^^^ (b * 2 ^ k) := by
 have := b5Q (a + b * 2 ^ k) k
 rw [Nat.add_mul_mod_self_right, Nat.mod_eq_of_lt h, Nat.add_mul_div_right _ _ (Nat.two_pow_pos k), Nat.div_eq_of_lt h, Nat.zero_add] at this
 exact this.symm
/-- The bytes' number, the lowest first. -/
def leN : List Int → Nat
 | [] => 0
 | c :: l => c.toNat ^^^ (leN l * 256)
/-- The register behind a byte. -/
def d2y (p r : Nat) (c : Int) : Nat := (r / 256) ^^^ Sn p 8 ((r % 256) ^^^ c.toNat)
theorem d1C (p r : Nat) (c : Int) : d2y p r c = Sn p 8 (r ^^^ c.toNat) := by
 have h := b5Q r 8
 conv => rhs; rw [← h]
 rw [show (r % 2 ^ 8 ^^^ r / 2 ^ 8 * 2 ^ 8 ^^^ c.toNat) = ((r % 2 ^ 8 ^^^ c.toNat) ^^^ r / 2 ^ 8 * 2 ^ 8) by rw [Nat.xor_assoc, Nat.xor_comm (r / 2 ^ 8 * 2 ^ 8), Nat.xor_assoc], c8d, c6f, Nat.xor_comm]
 rfl
def a7f (p r : Nat) (l : List Int) : Nat := l.foldl (d2y p) r
theorem c8e (p r : Nat) (c : Int) (l : List Int) : a7f p r (c :: l) = a7f p (d2y p r c) l := rfl
theorem c3y (p r : Nat) (a b : List Int) : a7f p r (a ++ b) = a7f p (a7f p r a) b := by simp [a7f]
theorem d7B (p r : Nat) (l : List Int) : a7f p r l = Sn p (8 * l.length) (r ^^^ leN l) := by
 induction l generalizing r with
 | nil => simp [a7f, leN, Sn]
 | cons c l ih =>
  rw [c8e, ih, d1C, List.length_cons, show 8 * (l.length + 1) = 8 + 8 * l.length by omega, f0m, leN, ← Nat.xor_assoc, c8d p 8 (r ^^^ c.toNat), show (256 : Nat) = 2 ^ 8 from rfl, c6f]
theorem b6j {a b : Nat} (h : a ^^^ b = 0) : a = b := by
 have h1 : (a ^^^ b) ^^^ b = b := by rw [h, Nat.zero_xor]
 rwa [Nat.xor_assoc, Nat.xor_self, Nat.xor_zero] at h1
theorem d4b {p b n : Nat} (hp : p < 2 ^ b) (hn : n < 2 ^ b) : S p n < 2 ^ b := by
 unfold S
 split
 ·exact Nat.xor_lt_two_pow (by omega) hp
 ·omega
theorem d1D {p b n : Nat} (k : Nat) (hp : p < 2 ^ b) (hn : n < 2 ^ b) : Sn p k n < 2 ^ b := by
 induction k with
 | zero => exact hn
 | succ k ih => exact d4b hp ih
theorem d1E {p b r : Nat} {c : Int} (hb : 8 ≤ b) (hp : p < 2 ^ b) (hr : r < 2 ^ b) (hc : 0 ≤ c ∧ c < 256) : d2y p r c < 2 ^ b := by
 rw [d1C]
 have : 2 ^ 8 ≤ 2 ^ b := Nat.pow_le_pow_right (by decide) hb
 exact d1D 8 hp (Nat.xor_lt_two_pow hr (by omega))
theorem d7C {p b r : Nat} {l : List Int} (hb : 8 ≤ b) (hp : p < 2 ^ b) (hr : r < 2 ^ b) (hl : Bytes l) : a7f p r l < 2 ^ b := by
 induction l generalizing r with
 | nil => exact hr
 | cons c l ih => exact ih (d1E hb hp hr (hl c (by simp))) (fun x hx => hl x (by simp [hx]))
theorem f0n {p b n : Nat} (hp : 2 ^ (b - 1) ≤ p) (hb : 1 ≤ b) (hn : n < 2 ^ b) (h : S p n = 0) : n = 0 := by
 obtain ⟨c, rfl⟩ : ∃ c, b = c + 1 := ⟨b - 1, by omega⟩
 rw [Nat.add_sub_cancel] at hp
 rw [Nat.pow_succ] at hn
 unfold S at h
 split at h
 ·have := b6j h
  omega
 ·omega
theorem e2X {p b n : Nat} (k : Nat) (hp : 2 ^ (b - 1) ≤ p) (hp1 : p < 2 ^ b) (hb : 1 ≤ b) (hn : n < 2 ^ b) (h : Sn p k n = 0) : n = 0 := by
 induction k with
 | zero => exact h
 | succ k ih => exact ih (f0n hp hb (d1D k hp1 hn) h)
theorem f0o {p b m n : Nat} (k : Nat) (hp : 2 ^ (b - 1) ≤ p) (hp1 : p < 2 ^ b) (hb : 1 ≤ b) (hm : m < 2 ^ b) (hn : n < 2 ^ b) (h : Sn p k m = Sn p k n) : m = n := by
 have h1 : Sn p k (m ^^^ n) = 0 := by rw [c8d, h, Nat.xor_self]
 exact b6j (e2X k hp hp1 hb (Nat.xor_lt_two_pow hm hn) h1)
theorem f0p {l : List Int} (h : Bytes l) : leN l < 2 ^ (8 * l.length) := by
 induction l with
 | nil => simp [leN]
 | cons c l ih =>
  have hc := h c (by simp)
  have hl := ih (fun x hx => h x (by simp [hx]))
  rw [leN, List.length_cons, show (256 : Nat) = 2 ^ 8 from rfl, ← d1B _ (by omega), show 8 * (l.length + 1) = 8 * l.length + 8 by omega, Nat.pow_add]
  omega
theorem e2Y (n s : Nat) (h : n < 256 ^ s) : leN (leb (n : Int) s) = n := by
 induction s generalizing n with
 | zero => simp at h; subst h; rfl
 | succ s ih =>
  rw [Nat.pow_succ] at h
  rw [leb, leN, show ((n : Int) / 256) = ((n / 256 : Nat) : Int) by omega, ih (n / 256) (by omega), show ((n : Int) % 256).toNat = n % 2 ^ 8 by omega]
  exact b5Q n 8
theorem e2Z {l : List Int} (h : Bytes l) : leb (leN l : Int) l.length = l := by
 induction l with
 | nil => rfl
 | cons c l ih =>
  have hc := h c (by simp)
  have hl := ih (fun x hx => h x (by simp [hx]))
  have e : leN (c :: l) = c.toNat + leN l * 256 := by
   rw [leN, show (256 : Nat) = 2 ^ 8 from rfl, ← d1B _ (by omega)]
  rw [e, List.length_cons, leb, show (((c.toNat + leN l * 256 : Nat) : Int) % 256) = c by omega, show (((c.toNat + leN l * 256 : Nat) : Int) / 256) = (leN l : Int) by omega, hl]
/-- The check sequences' numbers. -/
def byN (wide : Bool) : Nat := if wide = true then 3988292384 else 33800
def wid (wide : Bool) : Nat := if wide = true then 32 else 16
def b2E (wide : Bool) : Nat := 2 ^ wid wide - 1
def d7D (wide : Bool) : Nat := if wide = true then 3736805603 else 61624
def a3p (wide : Bool) : Nat := if wide = true then 4 else 2
theorem d7E (wide : Bool) : byN wide < 2 ^ wid wide := by cases wide <;> decide
theorem f0q (wide : Bool) : 2 ^ (wid wide - 1) ≤ byN wide := by cases wide <;> decide
theorem d7F (wide : Bool) : 8 ≤ wid wide := by cases wide <;> decide
theorem f0r (wide : Bool) : wid wide ≤ 32 := by cases wide <;> decide
theorem c6g (wide : Bool) : wid wide = 8 * a3p wide := by cases wide <;> rfl
theorem b2r (wide : Bool) : b2E wide < 2 ^ wid wide := by cases wide <;> decide
theorem e3a (wide : Bool) : Sn (byN wide) (wid wide) (b2E wide) = d7D wide := by cases wide <;> decide +kernel
def ofN (l : List Int) (wide : Bool) : Nat := a7f (byN wide) (b2E wide) l ^^^ b2E wide
theorem c3z (l : List Int) (wide : Bool) (r : Nat) (hr : r < 2 ^ wid wide) (h : Bytes l) : a7f (byN wide) r l < 2 ^ wid wide := d7C (d7F wide) (d7E wide) hr h
theorem of_lt (l : List Int) (wide : Bool) (h : Bytes l) : ofN l wide < 2 ^ wid wide := Nat.xor_lt_two_pow (c3z l wide _ (b2r wide) h) (b2r wide)
theorem c8f (wide : Bool) : 256 ^ a3p wide = 2 ^ wid wide := by cases wide <;> decide
/-- What ends in the check sequence of what is ahead, and nothing else, leads to the good register. -/
theorem d7G (x s : List Int) (wide : Bool) (hx : Bytes x) (hs : Bytes s) (hl : s.length = a3p wide) : a7f (byN wide) (b2E wide) (x ++ s) = d7D wide ↔ s = leb (ofN x wide : Int) (a3p wide) := by
 have h1 : a7f (byN wide) (b2E wide) (x ++ s) = Sn (byN wide) (wid wide) (a7f (byN wide) (b2E wide) x ^^^ leN s) := by
  rw [c3y, d7B _ _ s, hl, ← c6g]
 have hm := c3z x wide _ (b2r wide) hx
 have hn : leN s < 2 ^ wid wide := by
  have := f0p hs
  rwa [hl, ← c6g] at this
 rw [h1, ← e3a]
 constructor
 ·intro h
  have e := f0o (wid wide) (f0q wide) (d7E wide) (by have := d7F wide; omega) (Nat.xor_lt_two_pow hm hn) (b2r wide) h
  have e2 : leN s = ofN x wide := by
   unfold ofN
   conv => rhs; rhs; rw [← e]
   rw [← Nat.xor_assoc, Nat.xor_self, Nat.zero_xor]
  rw [← e2, ← hl, e2Z hs]
 ·intro h
  have e2 : leN s = ofN x wide := by
   rw [h, e2Y _ _ (by rw [c8f]; exact of_lt x wide hx)]
  rw [e2]
  unfold ofN
  rw [← Nat.xor_assoc, Nat.xor_self, Nat.zero_xor]
theorem b0W {a b : Nat} (ha : a < 4294967296) (hb : b < 4294967296) : Go.bits .xor .u32 (a : Int) (b : Int) = ((a ^^^ b : Nat) : Int) := by
 have h1 : a ^^^ b < 2 ^ 32 := Nat.xor_lt_two_pow (by omega) (by omega)
 have e2 : (BitVec.ofNat 32 a ^^^ BitVec.ofNat 32 b).toNat = a ^^^ b := by
  rw [BitVec.toNat_xor, BitVec.toNat_ofNat, BitVec.toNat_ofNat, Nat.mod_eq_of_lt (show a < 2 ^ 32 by omega), Nat.mod_eq_of_lt (show b < 2 ^ 32 by omega)]
 have e3 := d7u (x := ((a ^^^ b : Nat) : Int)) (by omega) (by omega)
 rw [← e2] at e3
 rw [← e2]
 exact e3
theorem c6h {a b : Nat} (ha : a < 256) (hb : b < 256) : Go.bits .xor .u8 (a : Int) (b : Int) = ((a ^^^ b : Nat) : Int) := by
 have h1 : a ^^^ b < 2 ^ 8 := Nat.xor_lt_two_pow (by omega) (by omega)
 have e2 : (BitVec.ofNat 8 a ^^^ BitVec.ofNat 8 b).toNat = a ^^^ b := by
  rw [BitVec.toNat_xor, BitVec.toNat_ofNat, BitVec.toNat_ofNat, Nat.mod_eq_of_lt (by simpa using ha), Nat.mod_eq_of_lt (by simpa using hb)]
 have e3 := wraps_u8 (((a ^^^ b : Nat) : Int)) (by omega) (by omega)
 rw [← e2] at e3
 rw [← e2]
 exact e3
theorem e3c (p n : Nat) (hp : p < 2 ^ 32) (hn : n < 2 ^ 32) : F6.bit (p : Int) (n : Int) = ((S p n : Nat) : Int) := by
 unfold F6.bit S
 rw [d1y (by omega) (by omega), show ((n : Int) / 2) = ((n / 2 : Nat) : Int) by omega]
 by_cases h : n % 2 = 1
 ·rw [if_pos (by omega), if_pos h, b0W (by omega) (by omega)]
 ·rw [if_neg (by omega), if_neg h]
theorem d7H (p n k : Nat) (hp : p < 2 ^ 32) (hn : n < 2 ^ 32) : F6.b0H (p : Int) k (n : Int) = ((Sn p k n : Nat) : Int) := by
 induction k with
 | zero => rfl
 | succ k ih => rw [F6.b0H, ih, e3c _ _ hp (d1D k hp hn)]; rfl
theorem f0s (wide : Bool) : F6.by wide = (byN wide : Int) := by cases wide <;> rfl
theorem f0t (wide : Bool) : byN wide < 2 ^ 32 := by cases wide <;> decide
theorem c3A (wide : Bool) : b2E wide < 4294967296 := by cases wide <;> decide
theorem b9t (wide : Bool) : a3L.f wide = some (b2E wide : Int) := by cases wide <;> rfl
theorem b9u (wide : Bool) : a2r.f wide = some (a3p wide : Int) := by cases wide <;> rfl
theorem e3d (p r : Nat) (c : Int) (hp : p < 2 ^ 32) (hr : r < 2 ^ 32) (hc : 0 ≤ c ∧ c < 256) : Y3.stp (p : Int) (r : Int) c = ((d2y p r c : Nat) : Int) := by
 obtain ⟨n, rfl⟩ := Int.eq_ofNat_of_zero_le hc.1
 have h1 : r % 256 ^^^ n < 2 ^ 8 := Nat.xor_lt_two_pow (by omega) (by omega)
 have h2 : r % 256 ^^^ n < 2 ^ 32 := by omega
 unfold Y3.stp d2y
 rw [show ((r : Int) % 256) = ((r % 256 : Nat) : Int) by omega, c6h (by omega) (by omega), d7H _ _ _ hp h2, show ((r : Int) / 256) = ((r / 256 : Nat) : Int) by omega, Int.toNat_natCast]
 exact b0W (by omega) (d1D 8 hp h2)
theorem d7I (p : Nat) (hp : p < 2 ^ 32) (l : List Int) (hl : Bytes l) : ∀ r : Nat, r < 2 ^ 32 → l.foldl (Y3.stp (p : Int)) (r : Int) = ((a7f p r l : Nat) : Int) := by
 induction l with
 | nil => intro r hr; rfl
 | cons c l ih =>
  intro r hr
  have hc := hl c (by simp)
  rw [List.foldl_cons, e3d p r c hp hr hc, ih (fun x hx => hl x (by simp [hx])) _ (d1E (by decide) hp hr hc)]
  rfl
theorem e3e (n : Nat) (wide : Bool) : n &&& b2E wide = n % 2 ^ wid wide := Nat.and_two_pow_sub_one_eq_mod n (wid wide)
theorem d2z (n : Nat) (l : List Int) (wide : Bool) (hn : n < 4294967296) (hl : Bytes l) : Y3.f (n : Int) l wide = some ((a7f (byN wide) (n % 2 ^ wid wide) l : Nat) : Int) := by
 unfold Y3.f
 rw [b9t, Option.bind_some, f0s, c3v hn (c3A wide), e3e, d7I _ (f0t wide) l hl]
 have : n % 2 ^ wid wide ≤ n := Nat.mod_le _ _
 omega
theorem e3f (wide : Bool) : b2E wide % 2 ^ wid wide = b2E wide := Nat.mod_eq_of_lt (b2r wide)
theorem c6i (l : List Int) (wide : Bool) (hl : Bytes l) : Y3.f (b2E wide : Int) l wide = some ((a7f (byN wide) (b2E wide) l : Nat) : Int) := by
 have := d2z (b2E wide) l wide (c3A wide) hl
 rwa [e3f] at this
theorem g94 {n : Nat} {wide : Bool} (h : n < 2 ^ wid wide) : n < 4294967296 := by
 have : 2 ^ wid wide ≤ 2 ^ 32 := Nat.pow_le_pow_right (by decide) (f0r wide)
 omega
theorem e3g (l : List Int) (wide : Bool) (hl : Bytes l) : b3o.f l wide = some ((ofN l wide : Nat) : Int) := by
 unfold b3o.f
 simp only [b9t, c6i l wide hl, Option.bind_some]
 rw [b0W (g94 (c3z l wide _ (b2r wide) hl)) (c3A wide)]
 rfl
/-- Bytes, sealed. -/
def a5M (l : List Int) (wide : Bool) : List Int := l ++ leb (ofN l wide : Int) (a3p wide)
theorem a7U {l : List Int} (h : Bytes l) (wide : Bool) : Bytes (a5M l wide) := h.append (b5O _ _)
theorem a5D (l : List Int) (wide : Bool) : (a5M l wide).length = l.length + a3p wide := by
 unfold a5M
 rw [List.length_append, a2T]
theorem b1S (wide : Bool) : a3p wide ≤ 4 := by cases wide <;> decide
theorem d2A (d : Nat) : ∀ (i s : Nat) (acc : List Int) (n : Int), s = i + d → s ≤ 4 → acc.length + d < 140737488355328 → 0 ≤ n →
  Ev (fun k => a2e.l0 k acc n (s : Int) (i : Int)) (acc ++ leb n d) := by
 induction d with
 | zero =>
  intro i s acc n hs h4 ha hn
  refine Ev.step (f := fun _ => some (acc ++ leb n 0)) (fun k => ?_) (Ev.now _)
  rw [a2e.l0, if_neg (by omega)]
  simp [leb]
 | succ d ih =>
  intro i s acc n hs h4 ha hn
  have next := ih (i + 1) s (acc ++ [n % 256]) (n / 256) (by omega) h4 (by simp; omega) (by omega)
  rw [List.append_assoc] at next
  refine Ev.step (fun k => ?_) next
  rw [a2e.l0, if_pos (by omega), if_pos (by omega), w64 (by omega) (by omega)]
  rfl
theorem d2B (l : List Int) (wide : Bool) (hl : Bytes l) (hn : l.length ≤ 100000) : Ev (fun k => a2e.f k l wide) (a5M l wide) := by
 have h4 := b1S wide
 unfold a2e.f
 refine Ev.bind (Ev.const (show J6.f l = some l by unfold J6.f; rw [if_pos (by omega)])) ?_
 simp only [e3g l wide hl, b9u, Option.bind_some]
 exact d2A (a3p wide) 0 (a3p wide) l (ofN l wide : Int) (by omega) h4 (by omega) (by omega)
def b6k (l : List Int) (wide : Bool) : Bool := decide (a3p wide ≤ l.length) && decide (a7f (byN wide) (b2E wide) l = d7D wide)
theorem d2C (l : List Int) (wide : Bool) (hl : Bytes l) : a7S.f l wide = some (b6k l wide) := by
 unfold a7S.f b6k
 simp only [b9u, b9t, c6i l wide hl, Option.bind_some]
 by_cases h : a3p wide ≤ l.length
 ·have h' : (l.length : Int) ≥ (a3p wide : Int) := by omega
  simp only [h, h', decide_true, Bool.true_and, if_true]
  have e : ∀ a b : Nat, ((a : Int) == (b : Int)) = decide (a = b) := fun a b => by
   rw [Bool.eq_iff_iff, beq_iff_eq, decide_eq_true_iff]
   omega
  cases wide
  ·simp only [Bool.false_eq_true, if_false]
   exact congrArg some (e _ 61624)
  ·simp only [if_true]
   exact congrArg some (e _ 3736805603)
 ·have h' : ¬ (l.length : Int) ≥ (a3p wide : Int) := by omega
  simp only [h, h', decide_false, Bool.false_and, if_false]
  cases wide <;> rfl
def b9v (l : List Int) (wide : Bool) : List Int × Bool := if b6k l wide = true then (l.take (l.length - a3p wide), true) else ([], false)
theorem d2D (l : List Int) (wide : Bool) (hl : Bytes l) (hn : l.length ≤ 100000) : a8Q.f l wide = some (b9v l wide) := by
 unfold a8Q.f b9v
 rw [d2C l wide hl, Option.bind_some]
 have h4 := b1S wide
 by_cases h : b6k l wide = true
 ·have hs : a3p wide ≤ l.length := by
   unfold b6k at h
   simp only [Bool.and_eq_true, decide_eq_true_eq] at h
   exact h.1
  rw [if_pos h, if_pos h, b9u, Option.bind_some, w64 (by omega) (by omega), if_pos (by omega), if_pos (by omega), show (((l.length : Int) - (a3p wide : Int)).toNat) = l.length - a3p wide by omega]
  unfold J6.f
  rw [if_pos (by rw [List.length_take]; omega)]
  rfl
 ·rw [if_neg h, if_neg h]
/-- What is good is sealed, and what is sealed is good. -/
theorem d2E (l : List Int) (wide : Bool) (hl : Bytes l) (hs : a3p wide ≤ l.length) : b6k l wide = true ↔ a5M (l.take (l.length - a3p wide)) wide = l := by
 have e := List.take_append_drop (l.length - a3p wide) l
 have h := d7G (l.take (l.length - a3p wide)) (l.drop (l.length - a3p wide)) wide (hl.take _) (hl.drop _) (by rw [List.length_drop]; omega)
 rw [e] at h
 unfold b6k
 simp only [hs, decide_true, Bool.true_and, decide_eq_true_eq]
 rw [h]
 unfold a5M
 constructor
 ·intro h1
  rw [← h1, e]
 ·intro h1
  have h2 : l.take (l.length - a3p wide) ++ leb (ofN (l.take (l.length - a3p wide)) wide : Int) (a3p wide) = l.take (l.length - a3p wide) ++ l.drop (l.length - a3p wide) := by rw [h1, e]
  exact (List.append_cancel_left h2).symm
theorem c8g (l : List Int) (wide : Bool) (hl : Bytes l) : b6k (a5M l wide) wide = true := by
 rw [d2E _ _ (a7U hl wide) (by rw [a5D]; omega), a5D, Nat.add_sub_cancel]
 congr 1
 unfold a5M
 simp
theorem c8h (l : List Int) (wide : Bool) (hl : Bytes l) : b9v (a5M l wide) wide = (l, true) := by
 unfold b9v
 rw [if_pos (c8g l wide hl), a5D, Nat.add_sub_cancel]
 unfold a5M
 simp
theorem a9a (m : Int) : ∀ (l : List Int) (b : Bool) (acc : List Int), Bytes l → Bytes acc → Bytes (b0V m l b acc).1
 | [], b, acc, _, ha => by
  unfold b0V
  split
  ·exact Bytes.nil
  ·exact ha
 | c :: t, b, acc, hl, ha => by
  have hc := hl c (by simp)
  have ht : Bytes t := fun x hx => hl x (by simp [hx])
  unfold b0V
  split
  ·exact Bytes.nil
  ·split
   ·exact a9a m t b acc ht ha
   ·split
    ·exact a9a m t false _ ht (ha.append (Bytes.cons (b6i hc) Bytes.nil))
    ·split
     ·exact a9a m t true acc ht ha
     ·exact a9a m t b _ ht (ha.append (Bytes.cons hc Bytes.nil))
theorem b9w {l : List Int} (h : Bytes l) (m : Int) : Bytes (a2g l m).1 := a9a m l false [] h Bytes.nil
theorem e3h (wide : Bool) : DF.size wide = (a3p wide : Int) := by cases wide <;> rfl
/-- What a frame as it stands is taken for. -/
def a5Q (m : Int) (wide : Bool) (s : DF) : DF :=
 if (a2g s.held m).2 = true then
  if (a2g s.held m).1.length = 0 then s
  else if ((a2g s.held m).1.length : Int) < DF.size wide + 2 then { s with ts := wrap64 (s.ts + 1) }
  else if ((a2g s.held m).1.length : Int) > DF.size wide + 65535 then { s with tl := wrap64 (s.tl + 1) }
  else if (b9v (a2g s.held m).1 wide).2 = true then { s with tg := wrap64 (s.tg + 1), done := s.done ++ [(b9v (a2g s.held m).1 wide).1] }
  else { s with tw := wrap64 (s.tw + 1) }
 else { s with ta := wrap64 (s.ta + 1) }
theorem c8i (m : Int) (wide : Bool) (s : DF) (h0 : 0 ≤ m) (h1 : m < 4294967296) (hb : Bytes s.held) (hl : s.held.length < 70368744177664) (hd : s.done.length < 5864062014805) : Ev (fun k => DF.close k m wide s) (a5Q m wide s) := by
 unfold DF.close
 refine Ev.bind (c3x s.held m hb h0 h1 hl) ?_
 have hz := DF.size_le wide
 have hu := b9w hb m
 unfold a5Q
 by_cases a : (a2g s.held m).2 = true
 ·simp only [a, if_true]
  by_cases b : (a2g s.held m).1.length = 0
  ·simp only [b, if_true]
   exact Ev.now _
  ·simp only [b, if_false]
   by_cases c : ((a2g s.held m).1.length : Int) < DF.size wide + 2
   ·simp only [c, if_true]
    exact Ev.now _
   ·simp only [c, if_false]
    by_cases d : ((a2g s.held m).1.length : Int) > DF.size wide + 65535
    ·simp only [d, if_true]
     exact Ev.now _
    ·simp only [d, if_false]
     rw [d2D _ wide hu (by omega)]
     simp only [Option.bind_some]
     by_cases e : (b9v (a2g s.held m).1 wide).2 = true
     ·simp only [e, if_true, hd]
      exact Ev.now _
     ·simp only [e, if_false]
      exact Ev.now _
 ·simp only [a, if_false]
  exact Ev.now _
def a2U (m : Int) (wide : Bool) (s : DF) (c : Int) : DF :=
 if s.inn = true then if c = 126 then { a5Q m wide s with held := [] } else { s with held := s.held ++ [c] }
 else if c = 126 then { s with inn := true } else s
def a1l (m : Int) (wide : Bool) (s : DF) (l : List Int) : DF := l.foldl (a2U m wide) s
theorem b5R (m : Int) (wide : Bool) (s : DF) : a1l m wide s [] = s := rfl
theorem a6i (m : Int) (wide : Bool) (s : DF) (c : Int) (l : List Int) : a1l m wide s (c :: l) = a1l m wide (a2U m wide s c) l := rfl
theorem b40 (m : Int) (wide : Bool) (s : DF) (a b : List Int) : a1l m wide s (a ++ b) = a1l m wide (a1l m wide s a) b := by unfold a1l; rw [List.foldl_append]
theorem a9C (m : Int) (wide : Bool) (s : DF) : (a5Q m wide s).held = s.held ∧ (a5Q m wide s).inn = s.inn ∧ (a5Q m wide s).done.length ≤ s.done.length + 1 := by
 unfold a5Q
 repeat' split
 all_goals exact ⟨rfl, rfl, by first | (simp; done) | omega⟩
theorem b9x (m : Int) (wide : Bool) (s : DF) (c : Int) : (a2U m wide s c).held.length ≤ s.held.length + 1 ∧ (a2U m wide s c).done.length ≤ s.done.length + 1 := by
 have h := a9C m wide s
 unfold a2U
 repeat' split
 ·exact ⟨by simp, h.2.2⟩
 ·exact ⟨by simp, by simp⟩
 ·exact ⟨by simp, by simp⟩
 ·exact ⟨by omega, by omega⟩
theorem b6l {m : Int} {wide : Bool} {s : DF} {c : Int} (hs : Bytes s.held) (hc : 0 ≤ c ∧ c < 256) : Bytes (a2U m wide s c).held := by
 unfold a2U
 repeat' split
 ·exact Bytes.nil
 ·exact hs.append (Bytes.cons hc Bytes.nil)
 ·exact hs
 ·exact hs
theorem d2F (m : Int) (wide : Bool) (s : DF) (c : Int) (h0 : 0 ≤ m) (h1 : m < 4294967296) (hb : Bytes s.held) (hl : s.held.length < 70368744177664) (hd : s.done.length < 5864062014805) : Ev (fun k => DF.step k m wide s c) (a2U m wide s c) := by
 unfold DF.step a2U
 by_cases a : s.inn = true
 ·simp only [a, if_true]
  by_cases b : c = 126
  ·simp only [b, if_true]
   exact Ev.bind (c8i m wide s h0 h1 hb hl hd) (Ev.now _)
  ·simp only [b, if_false, show s.held.length < 140737488355328 by omega, if_true]
   exact Ev.now _
 ·simp only [a, if_false]
  by_cases b : c = 126
  ·simp only [b, if_true]
   exact Ev.now _
  ·simp only [b, if_false]
   exact Ev.now _
theorem c0R (m : Int) (wide : Bool) (h0 : 0 ≤ m) (h1 : m < 4294967296) : ∀ (l : List Int) (s : DF), Bytes l → Bytes s.held → s.held.length + l.length ≤ 1000000000 → s.done.length + l.length ≤ 1000000000 → Ev (fun k => DF.feed k m wide s l) (a1l m wide s l)
 | [], s, _, _, _, _ => Ev.now _
 | c :: l, s, hl, hs, h2, h3 => by
  have hc := hl c (by simp)
  have ht : Bytes l := fun x hx => hl x (by simp [hx])
  rw [List.length_cons] at h2 h3
  have h4 := b9x m wide s c
  exact Ev.bind (d2F m wide s c h0 h1 hs (by omega) (by omega)) (c0R m wide h0 h1 l _ ht (b6l hs hc) (by omega) (by omega))
def b1T : Bool → List Int → List Int → List (List Int)
 | _, _, [] => []
 | true, h, c :: l => if c = 126 then h :: b1T true [] l else b1T true (h ++ [c]) l
 | false, h, c :: l => if c = 126 then b1T true h l else b1T false h l
/-- What is counted, and done. -/
def norm (s : DF) : DF := { s with inn := false, held := [] }
def tally (m : Int) (wide : Bool) (s : DF) (f : List Int) : DF := norm (a5Q m wide { s with held := f })
theorem c8j (m : Int) (wide : Bool) (s : DF) : norm { a5Q m wide s with held := [] } = tally m wide (norm s) s.held := by
 unfold tally norm a5Q
 simp only []
 repeat' split
 all_goals rfl
theorem a9b (m : Int) (wide : Bool) : ∀ (l : List Int) (s : DF), (s.inn = false → s.held = []) → norm (a1l m wide s l) = (b1T s.inn s.held l).foldl (tally m wide) (norm s)
 | [], s, _ => by
  unfold b1T
  rfl
 | c :: l, s, hs => by
  rw [a6i]
  cases hi : s.inn with
  | true =>
   by_cases b : c = 126
   ·have e : a2U m wide s c = { a5Q m wide s with held := [] } := by unfold a2U; rw [if_pos hi, if_pos b]
    have hin : (a2U m wide s c).inn = true := by rw [e]; exact (a9C m wide s).2.1.trans hi
    rw [a9b m wide l (a2U m wide s c) (fun h => by rw [hin] at h; cases h), hin, b1T, if_pos b, List.foldl_cons, ← c8j, e]
   ·have e : a2U m wide s c = { s with held := s.held ++ [c] } := by unfold a2U; rw [if_pos hi, if_neg b]
    have hin : (a2U m wide s c).inn = true := by rw [e]; exact hi
    rw [a9b m wide l (a2U m wide s c) (fun h => by rw [hin] at h; cases h), hin, b1T, if_neg b, e]
    rfl
  | false =>
   have hh := hs hi
   by_cases b : c = 126
   ·have e : a2U m wide s c = { s with inn := true } := by unfold a2U; rw [if_neg (by rw [hi]; decide), if_pos b]
    rw [a9b m wide l (a2U m wide s c) (fun h => by rw [e] at h; cases h), e, b1T, if_pos b]
    rfl
   ·have e : a2U m wide s c = s := by unfold a2U; rw [if_neg (by rw [hi]; decide), if_neg b]
    rw [e, a9b m wide l s hs, hi, b1T, if_neg b]
theorem c3B (l : List (List Int)) (i : Nat) (h : i < l.length) : a2O l (i : Int) = l[i] := by
 unfold a2O
 rw [Int.toNat_natCast, List.getD_eq_getElem?_getD, List.getElem?_eq_getElem h]
 rfl
/-- A body's frame, without the flag ahead. -/
def a3v (m : Int) (wide : Bool) (x : List Int) : List Int := a2x (a5M x wide) m ++ [126]
theorem b9y (m : Int) (wide : Bool) (x : List Int) (h : x.length ≤ 70000) : (a3v m wide x).length ≤ 140009 := by
 unfold a3v
 have h1 := (b9s (a5M x wide) m).2
 have h2 := b1S wide
 rw [a5D] at h1
 rw [List.length_append, List.length_singleton]
 omega
/-- The frames of a row, from some bytes on. -/
def c6j (m : Int) (wide : Bool) : List Int → List (List Int) → List Int × Int
 | acc, [] => (acc, 0)
 | acc, x :: t => if (x.length : Int) < 2 then ([], 1) else if (x.length : Int) > 65535 then ([], 4) else c6j m wide (acc ++ a3v m wide x) t
def d7J (m : Int) (wide : Bool) (l : List (List Int)) : List Int × Int := c6j m wide [126] l
theorem d7K (m : Int) (wide : Bool) (h0 : 0 ≤ m) (h1 : m < 4294967296) (l : List (List Int)) (hb : ∀ x ∈ l, Bytes x) (hn : l.length ≤ 50) (hx : ∀ x ∈ l, x.length ≤ 70000) : ∀ (d i : Nat) (acc : List Int), l.length - i = d → i ≤ l.length → acc.length ≤ 1 + 150000 * i →
  Ev (fun k => a0N.l0 k m wide acc l (l.length : Int) (i : Int)) (c6j m wide acc (l.drop i)) := by
 intro d
 induction d with
 | zero =>
  intro i acc hd hi ha
  rw [List.drop_eq_nil_of_le (by omega)]
  refine Ev.step (f := fun _ => some (acc, 0)) (fun k => ?_) (Ev.now _)
  rw [a0N.l0, if_neg (by omega)]
 | succ d ih =>
  intro i acc hd hi ha
  have hlt : i < l.length := by omega
  have hbi := hb l[i] (List.getElem_mem hlt)
  have hxi := hx l[i] (List.getElem_mem hlt)
  rw [List.drop_eq_getElem_cons hlt, c6j]
  by_cases a : (l[i].length : Int) < 2
  ·rw [if_pos a]
   refine Ev.step (f := fun _ => some ([], 1)) (fun k => ?_) (Ev.now _)
   rw [a0N.l0, if_pos (by omega), if_pos (by omega), if_pos (by omega), c3B l i hlt, if_pos a]
  ·rw [if_neg a]
   by_cases b : (l[i].length : Int) > 65535
   ·rw [if_pos b]
    refine Ev.step (f := fun _ => some ([], 4)) (fun k => ?_) (Ev.now _)
    rw [a0N.l0, if_pos (by omega), if_pos (by omega), if_pos (by omega), c3B l i hlt, if_neg a, if_pos b]
   ·rw [if_neg b]
    have hz := b1S wide
    have hfl := b9y m wide l[i] hxi
    have hlen : (a5M l[i] wide).length < 70368744177664 := by rw [a5D]; omega
    refine Ev.step (f := fun k => (a2e.f k l[i] wide).bind fun t => (D9.f t m).bind fun u => (x9.f [acc, u, [126]]).bind fun z => a0N.l0 k m wide z l (l.length : Int) (wrap64 ((i : Int) + 1))) (fun k => ?_) ?_
    ·rw [a0N.l0, if_pos (by omega), if_pos (by omega), if_pos (by omega), c3B l i hlt, if_neg a, if_neg b]
    ·refine Ev.bind (d2B l[i] wide hbi (by omega)) ?_
     have e : x9.f [acc, a2x (a5M l[i] wide) m, [126]] = some (acc ++ a3v m wide l[i]) := by
      have e1 : [acc, a2x (a5M l[i] wide) m, [126]].flatten = acc ++ a3v m wide l[i] := by simp [a3v]
      unfold x9.f
      rw [e1, if_pos (by rw [List.length_append]; omega)]
     have next := ih (i + 1) (acc ++ a3v m wide l[i]) (by omega) (by omega) (by rw [List.length_append]; omega)
     have e2 : wrap64 ((i : Int) + 1) = ((i + 1 : Nat) : Int) := w64 (by omega) (by omega)
     refine Ev.congr (f := fun k => a0N.l0 k m wide (acc ++ a3v m wide l[i]) l (l.length : Int) ((i + 1 : Nat) : Int)) (fun k => ?_) next
     rw [c8b _ m (a7U hbi wide) h0 h1 hlen, Option.bind_some, e, Option.bind_some, e2]
theorem d7L (m : Int) (wide : Bool) (h0 : 0 ≤ m) (h1 : m < 4294967296) (l : List (List Int)) (hb : ∀ x ∈ l, Bytes x) (hn : l.length ≤ 50) (hx : ∀ x ∈ l, x.length ≤ 70000) : Ev (fun k => a0N.f k l m wide) (d7J m wide l) := d7K m wide h0 h1 l hb hn hx l.length 0 [126] (by omega) (by omega) (by simp)
theorem c8k (m : Int) (wide : Bool) (h0 : 0 ≤ m) (h1 : m < 4294967296) (x : List Int) (hb : Bytes x) (hx : x.length ≤ 70000) : Ev (fun k => a6n.f k x m wide) (d7J m wide [x]) := by
 have h := d7L m wide h0 h1 [x] (fun y hy => by rw [List.mem_singleton.1 hy]; exact hb) (by simp) (fun y hy => by rw [List.mem_singleton.1 hy]; exact hx)
 generalize d7J m wide [x] = r at h ⊢
 obtain ⟨r1, r2⟩ := r
 unfold a6n.f
 exact Ev.bind h (Ev.now _)
theorem c3C : ∀ (a h l : List Int), (∀ c ∈ a, c ≠ 126) → b1T true h (a ++ 126 :: l) = (h ++ a) :: b1T true [] l
 | [], h, l, _ => by rw [List.nil_append, b1T, if_pos rfl, List.append_nil]
 | c :: a, h, l, hc => by
  rw [List.cons_append, b1T, if_neg (hc c (by simp)), c3C a (h ++ [c]) l (fun x hx => hc x (by simp [hx])), List.append_assoc, List.singleton_append]
theorem d2G (m : Int) (wide : Bool) (s : DF) : tally m wide s [] = norm s := by
 unfold tally a5Q a2g
 simp [b0V, norm]
theorem b96 (m : Int) (x : List Int) (hb : Bytes x) : a2g (a2x x m) m = (x, true) := e2V m m x (a2x x m) hb (d7z m m x hb (fun _ h => h))
def good (s : DF) (x : List Int) : DF := { s with tg := wrap64 (s.tg + 1), done := s.done ++ [x] }
theorem b9z (m : Int) (wide : Bool) (s : DF) (x : List Int) (hb : Bytes x) (h2 : 2 ≤ x.length) (h3 : x.length ≤ 65535) : tally m wide s (a2x (a5M x wide) m) = norm (good s x) := by
 have hz := b1S wide
 have hl := a5D x wide
 have hd := e3h wide
 have c1 : ¬ (a5M x wide).length = 0 := by omega
 have c2 : ¬ ((a5M x wide).length : Int) < DF.size wide + 2 := by omega
 have c3 : ¬ ((a5M x wide).length : Int) > DF.size wide + 65535 := by omega
 unfold tally a5Q
 simp only [b96 m _ (a7U hb wide), c8h x wide hb, c1, c2, c3, if_true, if_false]
 rfl
theorem d7M (m : Int) (wide : Bool) (x : List Int) : d7J m wide [x] = if (x.length : Int) < 2 then ([], 1) else if (x.length : Int) > 65535 then ([], 4) else (126 :: a3v m wide x, 0) := by
 unfold d7J
 rw [c6j]
 rfl
/-- s with rows done ahead. -/
def ahead (d : List (List Int)) (s : DF) : DF := { s with done := d ++ s.done }
theorem c3E (m : Int) (wide : Bool) (d : List (List Int)) (s : DF) : a5Q m wide (ahead d s) = ahead d (a5Q m wide s) := by
 unfold a5Q ahead
 simp only []
 repeat' split
 all_goals simp_all
theorem c6k (m : Int) (wide : Bool) (d : List (List Int)) (s : DF) (c : Int) : a2U m wide (ahead d s) c = ahead d (a2U m wide s c) := by
 unfold a2U
 have hi : (ahead d s).inn = s.inn := rfl
 have hh : (ahead d s).held = s.held := rfl
 rw [hi, hh]
 by_cases a : s.inn = true
 ·rw [if_pos a, if_pos a]
  by_cases b : c = 126
  ·rw [if_pos b, if_pos b, c3E]
   rfl
  ·rw [if_neg b, if_neg b]
   rfl
 ·rw [if_neg a, if_neg a]
  by_cases b : c = 126
  ·rw [if_pos b, if_pos b]
   rfl
  ·rw [if_neg b, if_neg b]
theorem b6m (m : Int) (wide : Bool) (d : List (List Int)) : ∀ (l : List Int) (s : DF), a1l m wide (ahead d s) l = ahead d (a1l m wide s l)
 | [], _ => rfl
 | c :: l, s => by rw [a6i, a6i, c6k, b6m m wide d l]
theorem c8l (s : DF) : s = ahead s.done { s with done := [] } := by
 unfold ahead
 simp
theorem b9A (m : Int) (wide : Bool) : ∀ (l : List Int) (s : DF), Bytes l → Bytes s.held → Bytes (a1l m wide s l).held ∧ (a1l m wide s l).held.length ≤ s.held.length + l.length ∧ (a1l m wide s l).done.length ≤ s.done.length + l.length
 | [], s, _, hs => ⟨hs, by simp [b5R], by simp [b5R]⟩
 | c :: l, s, hl, hs => by
  have hc := hl c (by simp)
  have ht : Bytes l := fun x hx => hl x (by simp [hx])
  have h := b9A m wide l (a2U m wide s c) ht (b6l hs hc)
  have h2 := b9x m wide s c
  rw [a6i, List.length_cons]
  exact ⟨h.1, by omega, by omega⟩
theorem div_zero {n p : Int} (h0 : 0 ≤ n) (hp : 0 < p) : n / p = 0 ↔ n < p := by
 constructor
 ·intro h
  have h1 := Int.mul_ediv_add_emod n p
  have h2 := Int.emod_lt_of_pos n hp
  rw [h, Int.mul_zero] at h1
  omega
 ·intro h
  exact Int.ediv_eq_zero_of_lt h0 h
def fits (n : Int) (s : Int) : Bool := decide (1 ≤ s) && decide (s ≤ 8) && decide (n < 256 ^ s.toNat)
theorem c0S (n s : Int) (h0 : 0 ≤ n) (h1 : n < 18446744073709551616) : a19.f n s = some (fits n s) := by
 unfold a19.f fits
 by_cases a : 1 ≤ s
 ·rw [if_pos a]
  by_cases b : s ≤ 8
  ·rw [if_pos b]
   by_cases c : s = 8
   ·subst c
    rw [if_pos rfl]
    simp [d7w, h1]
   ·rw [if_neg c, w64 (by omega) (by omega), if_pos (by omega)]
    have hs : shr .u64 n (8 * s) = n / 256 ^ s.toNat := by
     unfold shr
     rw [Nat.min_eq_left (by simp [IntKind.bits]; omega), c57, show (8 * s).toNat = 8 * s.toNat by omega]
    rw [hs]
    have hp : (0 : Int) < 256 ^ s.toNat := Int.pow_pos (by decide)
    have : (n / 256 ^ s.toNat == 0) = decide (n < 256 ^ s.toNat) := by
     rw [Bool.eq_iff_iff, beq_iff_eq, decide_eq_true_iff]
     exact div_zero h0 hp
    simp [this, a, b]
  ·rw [if_neg b]
   simp [b]
 ·rw [if_neg a]
  simp [a]
theorem d7N (x : List Int) (hm : x.length ≤ 4611686018427387904) (d : Nat) : ∀ (y : List Int) (i : Nat) (k : Nat), y.length = x.length → 2 * i ≤ x.length → x.length + 1 - 2 * i ≤ d → d < k →
  (∀ p, (hp : p < x.length) → (hq : p < y.length) → y[p] = if p < i ∨ x.length - i ≤ p then x[x.length - 1 - p]'(by omega) else x[p]) →
  D5.l0 k y (i : Int) ((x.length : Int) - 1 - i) = some x.reverse := by
 induction d with
 | zero => intro y i k hl hi hd hk h; omega
 | succ d ih =>
  intro y i k hl hi hd hk h
  obtain ⟨k, rfl, hk⟩ := e2Q hk
  rw [D5.l0]
  by_cases c : (i : Int) < (x.length : Int) - 1 - i
  ·rw [if_pos c, if_pos (by omega), if_pos (by omega), if_pos (by omega), if_pos (by omega)]
   rw [show ((x.length : Int) - 1 - (i : Int)) = ((x.length - 1 - i : Nat) : Int) by omega]
   rw [a8f (a := y) (x.length - 1 - i) (by omega), a8f (a := y) i (by omega), Int.toNat_natCast, Int.toNat_natCast]
   rw [w64 (by omega) (by omega), w64 (by omega) (by omega)]
   have := ih ((y.set i (y[x.length - 1 - i]'(by omega))).set (x.length - 1 - i) (y[i]'(by omega))) (i + 1) k (by simp [hl]) (by omega) (by omega) (by omega) (by
    intro p hp hq
    have hi1 := h i (by omega) (by omega)
    have hj1 := h (x.length - 1 - i) (by omega) (by omega)
    have hp1 := h p hp (by omega)
    simp only [List.getElem_set]
    by_cases e1 : x.length - 1 - i = p
    ·subst e1
     simp only [if_true]
     rw [hi1, if_neg (by omega), if_pos (by omega)]
     congr 1
     omega
    ·rw [if_neg e1]
     by_cases e2 : i = p
     ·subst e2
      simp only [if_true]
      rw [hj1, if_neg (by omega), if_pos (by omega)]
     ·rw [if_neg e2, hp1]
      by_cases e3 : p < i ∨ x.length - i ≤ p
      ·rw [if_pos e3, if_pos (by omega)]
      ·rw [if_neg e3, if_neg (by omega)])
   rw [show ((i : Int) + 1) = ((i + 1 : Nat) : Int) by omega, show (((x.length - 1 - i : Nat) : Int) - 1) = (x.length : Int) - 1 - ((i + 1 : Nat) : Int) by omega]
   exact this
  ·rw [if_neg c]
   congr 1
   apply List.ext_getElem
   ·simp [hl]
   ·intro p hp hq
    simp only [List.length_reverse] at hq
    rw [List.getElem_reverse, h p (by omega) hp]
    by_cases e : p < i ∨ x.length - i ≤ p
    ·rw [if_pos e]
    ·rw [if_neg e]
     congr 1
     omega
theorem c3F (x : List Int) (hm : x.length ≤ 4611686018427387904) : Ev (fun k => D5.f k x) x.reverse := by
 refine ⟨x.length + 3, fun k hk => ?_⟩
 show D5.f k x = _
 unfold D5.f
 rw [w64 (by omega) (by omega)]
 have := d7N x hm (x.length + 2) x 0 k rfl (by omega) (by omega) (by omega) (by
  intro p hp hq
  rw [if_neg (by omega)])
 simpa using this
theorem d7O (n : Int) (h0 : 0 ≤ n) (s : Nat) (hs : s ≤ 8) (big : Bool) (d : Nat) : ∀ (i : Nat) (y : List Int), s - i = d → i ≤ s → y = leb n i ++ List.replicate (s - i) 0 →
  Ev (fun k => a0O.l0 k n big y (s : Int) (i : Int)) (U2 n s big, true) := by
 induction d with
 | zero =>
  intro i y hd hi hy
  obtain rfl : i = s := by omega
  rw [Nat.sub_self, List.replicate_zero, List.append_nil] at hy
  subst hy
  refine Ev.step (f := fun k => if big = true then ((D5.f k (leb n i)).bind fun t => (some (t, true))) else (some (leb n i, true))) (fun k => ?_) ?_
  ·rw [a0O.l0, if_neg (by omega)]
  ·unfold U2
   cases big
   ·exact Ev.const rfl
   ·simp only [if_true]
    exact Ev.bind (c3F _ (by rw [a2T]; omega)) (Ev.now _)
 | succ d ih =>
  intro i y hd hi hy
  have hlen : y.length = s := by
   subst hy
   simp [a2T]
   omega
  refine Ev.step (f := fun k => a0O.l0 k n big (leb n (i + 1) ++ List.replicate (s - (i + 1)) 0) (s : Int) ((i + 1 : Nat) : Int)) (fun k => ?_) (ih (i + 1) _ (by omega) (by omega) rfl)
  rw [a0O.l0, if_pos (by omega), w64 (by omega) (by omega), if_pos (by omega), if_pos (by omega), if_pos (by omega), w64 (by omega) (by omega), Int.toNat_natCast]
  have hsh : shr .u64 n (8 * (i : Int)) = n / 256 ^ i := by
   unfold shr
   rw [Nat.min_eq_left (by simp [IntKind.bits]; omega), c57, show (8 * (i : Int)).toNat = 8 * i by omega]
  have : y.set i (shr .u64 n (8 * (i : Int)) % 256) = leb n (i + 1) ++ List.replicate (s - (i + 1)) 0 := by
   rw [hsh, hy, b9p, show s - i = (s - (i + 1)) + 1 by omega, List.replicate_succ, List.set_append_right _ _ (by rw [a2T]; exact Nat.le_refl _)]
   simp [a2T]
  rw [this]
  rfl
theorem c6l (n s : Int) (big : Bool) (h0 : 0 ≤ n) (h1 : n < 18446744073709551616) : Ev (fun k => a0O.f k n s big) (if fits n s then (U2 n s.toNat big, true) else ([], false)) := by
 unfold a0O.f
 rw [c0S n s h0 h1]
 simp only [Option.bind_some]
 by_cases c : fits n s = true
 ·simp only [c, if_true]
  have hf : 1 ≤ s ∧ s ≤ 8 := by
   unfold fits at c
   simp only [Bool.and_eq_true, decide_eq_true_eq] at c
   exact c.1
  simp only [show (0 : Int) ≤ s by omega, show s.toNat ≤ 281474976710656 by omega, if_true]
  have := d7O n h0 s.toNat (by omega) big s.toNat 0 (List.replicate s.toNat 0) (by omega) (by omega) (by simp [leb])
  rw [show ((s.toNat : Nat) : Int) = s by omega] at this
  exact this
 ·simp only [c, if_false]
  exact Ev.const rfl
theorem d1G (v b : Int) (h0 : 0 ≤ v) (h1 : v < 72057594037927936) (hb : 0 ≤ b ∧ b < 256) : Go.bits .or .u64 (IntKind.u64.wrap (v * 256)) (IntKind.u64.wrap b) = v * 256 + b := by
 rw [b1P (by omega) (by omega), b1P (by omega) (by omega)]
 exact c71 (i := 8) (by omega) (by omega) (by omega) (by omega) (by omega) (by omega)
theorem d7P (x : List Int) (hb : Bytes x) (hl : x.length ≤ 8) (big : Bool) (d : Nat) : ∀ i : Nat, x.length - i = d → i ≤ x.length →
  Ev (fun k => V3.l0 k x big (a0d ((if big then x else x.reverse).take i)) (x.length : Int) (i : Int)) (a81 x big, true) := by
 induction d with
 | zero =>
  intro i hd hi
  obtain rfl : i = x.length := by omega
  refine Ev.step (f := fun _ => some (a81 x big, true)) (fun k => ?_) (Ev.now _)
  rw [V3.l0, if_neg (by omega)]
  unfold a81
  cases big <;> simp [List.take_of_length_le]
 | succ d ih =>
  intro i hd hi
  refine Ev.step (f := fun k => V3.l0 k x big (a0d ((if big then x else x.reverse).take (i + 1))) (x.length : Int) ((i + 1 : Nat) : Int)) (fun k => ?_) (ih (i + 1) (by omega) (by omega))
  have hr : 0 ≤ a0d ((if big then x else x.reverse).take i) ∧ a0d ((if big then x else x.reverse).take i) < 72057594037927936 := by
   have hbb : Bytes ((if big then x else x.reverse).take i) := by
    cases big
    ·exact hb.reverse.take i
    ·exact hb.take i
   have := a6q _ hbb
   have h2 := b0m (i := ((if big then x else x.reverse).take i).length) (j := 7) (by rw [List.length_take]; omega)
   rw [show (256 : Int) ^ 7 = 72057594037927936 from by decide] at h2
   exact ⟨this.1, Int.lt_of_lt_of_le this.2 h2⟩
  rw [V3.l0, if_pos (by omega), w64 (x := (x.length : Int) - 1) (by omega) (by omega), w64 (x := (x.length : Int) - 1 - (i : Int)) (by omega) (by omega), if_pos (by omega), if_pos (by omega)]
  cases big
  ·simp only [Bool.false_eq_true, if_false] at hr ⊢
   rw [d1G _ _ hr.1 hr.2 (hb.at _), w64 (by omega) (by omega)]
   rw [List.take_succ_eq_append_getElem (by simp; omega), a6g, List.getElem_reverse]
   rw [show ((x.length : Int) - 1 - (i : Int)) = ((x.length - 1 - i : Nat) : Int) by omega, a8f (a := x) (x.length - 1 - i) (by omega)]
   rfl
  ·simp only [if_true] at hr ⊢
   rw [if_pos (by omega), if_pos (by omega), d1G _ _ hr.1 hr.2 (hb.at _), w64 (by omega) (by omega)]
   rw [List.take_succ_eq_append_getElem (by omega), a6g, a8f (a := x) i (by omega)]
   rfl
theorem c6m (x : List Int) (hb : Bytes x) (big : Bool) : Ev (fun k => V3.f k x big) (if 1 ≤ x.length ∧ x.length ≤ 8 then (a81 x big, true) else (0, false)) := by
 unfold V3.f
 by_cases a : (x.length : Int) < 1
 ·simp only [a, if_true]
  rw [if_neg (by omega)]
  refine Ev.step (f := fun _ => some (0, false)) (fun k => ?_) (Ev.now _)
  rw [V3.j0, if_pos rfl]
 ·simp only [a, if_false]
  by_cases b : (x.length : Int) > 8
  ·rw [if_neg (by omega)]
   refine Ev.step (f := fun _ => some (0, false)) (fun k => ?_) (Ev.now _)
   rw [V3.j0, if_pos (by simpa using b)]
  ·rw [if_pos (by omega)]
   refine Ev.step (f := fun k => V3.l0 k x big 0 (x.length : Int) 0) (fun k => ?_) ?_
   ·rw [V3.j0, if_neg (by simpa using b)]
   ·have := d7P x hb (by omega) big x.length 0 (by omega) (by omega)
    simpa [a0d] using this
theorem d2H (x : List Int) (hb : Bytes x) (hl : x.length ≤ 8) (big : Bool) (d : Nat) : ∀ i : Nat, x.length - i = d → i ≤ x.length →
  Ev (fun k => O6.l0 k x big (a0d ((if big then x else x.reverse).take i)) (i : Int)) (a81 x big) := by
 induction d with
 | zero =>
  intro i hd hi
  obtain rfl : i = x.length := by omega
  refine Ev.step (f := fun _ => some (a81 x big)) (fun k => ?_) (Ev.now _)
  rw [O6.l0, if_neg (by omega)]
  unfold a81
  cases big <;> simp [List.take_of_length_le]
 | succ d ih =>
  intro i hd hi
  refine Ev.step (f := fun k => O6.l0 k x big (a0d ((if big then x else x.reverse).take (i + 1))) ((i + 1 : Nat) : Int)) (fun k => ?_) (ih (i + 1) (by omega) (by omega))
  have hr : 0 ≤ a0d ((if big then x else x.reverse).take i) ∧ a0d ((if big then x else x.reverse).take i) < 72057594037927936 := by
   have hbb : Bytes ((if big then x else x.reverse).take i) := by
    cases big
    ·exact hb.reverse.take i
    ·exact hb.take i
   have := a6q _ hbb
   have h2 := b0m (i := ((if big then x else x.reverse).take i).length) (j := 7) (by rw [List.length_take]; omega)
   rw [show (256 : Int) ^ 7 = 72057594037927936 from by decide] at h2
   exact ⟨this.1, Int.lt_of_lt_of_le this.2 h2⟩
  have st : ∀ v b : Int, 0 ≤ v → v < 72057594037927936 → 0 ≤ b ∧ b < 256 → IntKind.u64.wrap (IntKind.u64.wrap (256 * v) + IntKind.u64.wrap b) = v * 256 + b := by
   intro v b a1 a2 a3
   rw [b1P (x := 256 * v) (by omega) (by omega), b1P (x := b) (by omega) (by omega), b1P (by omega) (by omega)]
   omega
  rw [O6.l0, if_pos (by omega)]
  cases big
  ·simp only [Bool.false_eq_true, if_false] at hr ⊢
   rw [w64 (x := (x.length : Int) - 1) (by omega) (by omega), w64 (x := (x.length : Int) - 1 - (i : Int)) (by omega) (by omega), if_pos (by omega), if_pos (by omega)]
   rw [st _ _ hr.1 hr.2 (hb.at _), w64 (by omega) (by omega)]
   rw [List.take_succ_eq_append_getElem (by simp; omega), a6g, List.getElem_reverse]
   rw [show ((x.length : Int) - 1 - (i : Int)) = ((x.length - 1 - i : Nat) : Int) by omega, a8f (a := x) (x.length - 1 - i) (by omega)]
   rfl
  ·simp only [if_true] at hr ⊢
   rw [if_pos (by omega), st _ _ hr.1 hr.2 (hb.at _), w64 (by omega) (by omega)]
   rw [List.take_succ_eq_append_getElem (by omega), a6g, a8f (a := x) i (by omega)]
   rfl
theorem c0T (x : List Int) (hb : Bytes x) (hl : x.length ≤ 8) (big : Bool) : Ev (fun k => O6.f k x big) (a81 x big) := by
 show Ev (fun k => O6.l0 k x big 0 0) _
 have := d2H x hb hl big x.length 0 (by omega) (by omega)
 simpa [a0d] using this
/-- So many bytes at a place, as a number. -/
def a1p (l : List Int) (a n : Nat) (big : Bool) : Int := a81 ((l.take (a + n)).drop a) big
theorem b7M (l : List Int) (a n : Nat) (h : a + n ≤ l.length) : ((l.take (a + n)).drop a).length = n := by
 rw [List.length_drop, List.length_take]; omega
theorem a9c (l : List Int) (hb : Bytes l) (a n : Nat) (big : Bool) (hn : n ≤ 4) (h : a + n ≤ l.length) : 0 ≤ a1p l a n big ∧ a1p l a n big < 4294967296 := by
 have h1 := c73 ((l.take (a + n)).drop a) big ((hb.take _).drop _)
 rw [b7M l a n h] at h1
 have h2 : (256 : Int) ^ n ≤ 256 ^ 4 := b0m hn
 have h3 : (256 : Int) ^ 4 = 4294967296 := by decide
 rw [h3] at h2
 exact ⟨h1.1, Int.lt_of_lt_of_le h1.2 h2⟩
theorem a4C (l : List Int) (hb : Bytes l) (a n : Nat) (big : Bool) (h1 : 1 ≤ n) (hn : n ≤ 4) (h : a + n ≤ l.length) : Ev (fun k => y7.num k l big (a : Int) (n : Int)) (a1p l a n big) := by
 have hr := a9c l hb a n big hn h
 have hl := b7M l a n h
 have e1 : ((a : Int) + (n : Int)).toNat = a + n := by omega
 have e2 : ((a : Int)).toNat = a := by omega
 have hg := c6m ((l.take (a + n)).drop a) ((hb.take _).drop _) big
 rw [if_pos (by rw [hl]; omega)] at hg
 unfold y7.num
 rw [e1, e2]
 refine Ev.bind hg ?_
 refine Ev.const ?_
 show some (a1p l a n big % 4294967296) = _
 rw [Int.emod_eq_of_lt hr.1 hr.2]
theorem a8C (l : List Int) (hb : Bytes l) (a : Nat) (big : Bool) (hm : l.length ≤ 4611686018427387904) (h : a + 4 ≤ l.length) : Ev (fun k => O9.f k l (a : Int) big) (a1p l a 4 big) := by
 have hr := a9c l hb a 4 big (by omega) h
 have hl := b7M l a 4 h
 have e0 : wrap64 ((a : Int) + 4) = (a : Int) + 4 := w64 (by omega) (by omega)
 have e1 : ((a : Int) + 4).toNat = a + 4 := by omega
 have e2 : ((a : Int)).toNat = a := by omega
 have hg := c0T ((l.take (a + 4)).drop a) ((hb.take _).drop _) (by rw [hl]; omega) big
 have hf : ∀ k, O9.f k l (a : Int) big = (O6.f k ((l.take (a + 4)).drop a) big).bind fun t => some (t % 4294967296) := by
  intro k
  unfold O9.f
  rw [e0, if_pos (by omega), if_pos (by omega), if_pos (by omega), e1, e2]
 refine Ev.congr hf ?_
 refine Ev.bind hg ?_
 refine Ev.const ?_
 show some (a1p l a 4 big % 4294967296) = _
 rw [Int.emod_eq_of_lt hr.1 hr.2]
/-- What is cut out of l at a place, n bytes. -/
def b6L (l : List Int) (at_ n : Int) : List Int × Bool :=
 if 0 ≤ at_ ∧ 0 ≤ n ∧ at_ + n ≤ l.length then ((l.drop at_.toNat).take n.toNat, true) else ([], false)
theorem b9B (l : List Int) (at_ n : Int) (hl : l.length < 140737488355328) (ha : at_ ≤ 9223372036854775807) : a1S.f l at_ n = some (b6L l at_ n) := by
 unfold a1S.f b6L
 by_cases a : at_ < 0
 ·rw [if_pos a, if_neg (by omega)]
 ·rw [if_neg a]
  by_cases b : n < 0
  ·rw [if_pos b, if_neg (by omega)]
  ·rw [if_neg b]
   by_cases c : at_ > (l.length : Int)
   ·rw [if_pos c, if_neg (by omega)]
   ·rw [if_neg c, w64 (x := (l.length : Int) - at_) (by omega) (by omega)]
    by_cases d : n > (l.length : Int) - at_
    ·rw [if_pos d, if_neg (by omega)]
    ·rw [if_neg d, if_pos (by omega), w64 (by omega) (by omega), if_pos (by omega), if_pos (by omega), if_pos (by omega)]
     rw [b9q _ (by rw [List.length_drop, List.length_take]; omega)]
     simp only [Option.bind_some]
     rw [List.drop_take, show (at_ + n).toNat - at_.toNat = n.toNat by omega]
def a2y (l : List Int) (big : Bool) : Int × Int × Int × List Int × Int × Int :=
 if l.length < 16 then (0, 0, 0, [], 0, 2) else
 if a1p l 8 4 big > 131072 then (0, 0, 0, [], 0, 4) else
 if (l.length : Int) < 16 + a1p l 8 4 big then (0, 0, 0, [], 0, 2) else
 (a1p l 0 4 big, a1p l 4 4 big, a1p l 12 4 big, (l.drop 16).take (a1p l 8 4 big).toNat, 16 + a1p l 8 4 big, 0)
theorem d2I (l : List Int) (hb : Bytes l) (hm : l.length < 140737488355328) (big : Bool) : Ev (fun k => a4F.f k l big) (a2y l big) := by
 unfold a4F.f a2y
 by_cases h : l.length < 16
 ·rw [if_pos h]
  exact Ev.congr (fun k => if_pos (by omega)) (Ev.now _)
 ·rw [if_neg h]
  refine Ev.congr (fun k => if_neg (by omega)) ?_
  refine Ev.bind (a4C l hb 0 4 big (by omega) (by omega) (by omega)) ?_
  refine Ev.bind (a4C l hb 4 4 big (by omega) (by omega) (by omega)) ?_
  refine Ev.bind (a4C l hb 8 4 big (by omega) (by omega) (by omega)) ?_
  refine Ev.bind (a4C l hb 12 4 big (by omega) (by omega) (by omega)) ?_
  have hr := a9c l hb 8 4 big (by omega) (by omega)
  generalize a1p l 8 4 big = t at hr ⊢
  by_cases h2 : t > 131072
  ·rw [if_pos h2, if_pos h2]; exact Ev.now _
  ·rw [if_neg h2, if_neg h2]
   rw [b9B l 16 t hm (by omega), Option.bind_some]
   by_cases h3 : (l.length : Int) < 16 + t
   ·have hc : b6L l 16 t = ([], false) := if_neg (fun hh => by have := hh.2.2; omega)
    rw [if_pos h3, hc]
    exact Ev.now _
   ·have hc : b6L l 16 t = ((l.drop 16).take t.toNat, true) := if_pos ⟨by omega, hr.1, by omega⟩
    rw [if_neg h3, hc]
    exact Ev.now _
theorem c3G (l : List Int) (hb : Bytes l) (hm : l.length < 140737488355328) (big : Bool) : Ev (fun k => O8.f k l big) (a2y l big) := by
 unfold O8.f a2y
 by_cases h : l.length < 16
 ·rw [if_pos h]
  exact Ev.congr (fun k => if_pos (by omega)) (Ev.now _)
 ·rw [if_neg h]
  refine Ev.congr (fun k => if_neg (by omega)) ?_
  refine Ev.bind (a8C l hb 8 big (by omega) (by omega)) ?_
  have hr := a9c l hb 8 4 big (by omega) (by omega)
  generalize a1p l 8 4 big = t at hr ⊢
  have e1 : wrap64 t = t := w64 (by omega) (by omega)
  have e2 : wrap64 (16 + t) = 16 + t := w64 (by omega) (by omega)
  rw [e1, e2]
  by_cases h2 : t > 131072
  ·rw [if_pos h2]; exact Ev.congr (fun k => if_pos h2) (Ev.now _)
  ·rw [if_neg h2]
   refine Ev.congr (fun k => if_neg h2) ?_
   by_cases h3 : (l.length : Int) < 16 + t
   ·rw [if_pos h3]; exact Ev.congr (fun k => if_pos h3) (Ev.now _)
   ·rw [if_neg h3]
    refine Ev.congr (fun k => if_neg h3) ?_
    refine Ev.bind (a8C l hb 0 big (by omega) (by omega)) ?_
    refine Ev.bind (a8C l hb 4 big (by omega) (by omega)) ?_
    refine Ev.bind (a8C l hb 12 big (by omega) (by omega)) ?_
    have hd : (l.take ((16 + t).toNat)).drop 16 = (l.drop 16).take t.toNat := by
     rw [List.drop_take]
     congr 1
     omega
    rw [hd]
    have hle : ((l.drop 16).take t.toNat).length ≤ l.length := by rw [List.length_take, List.length_drop]; omega
    refine Ev.const ?_
    rw [if_pos (by omega), if_pos (by omega), if_pos (by simp only [List.length_nil]; omega), List.nil_append]
def a3U (l : List Int) : Bool × Bool × Int × Int × Bool :=
 if a1p l 0 4 false = 2712847316 then (false, false, 0, 0, true) else if a1p l 0 4 false = 2712812621 then (false, true, 0, 0, true) else
 if a1p l 0 4 true = 2712847316 then (true, false, 0, 0, true) else if a1p l 0 4 true = 2712812621 then (true, true, 0, 0, true) else (false, false, 0, 0, false)
theorem c8m (l : List Int) (hb : Bytes l) (h : 4 ≤ l.length) : Ev (fun k => a0q.f k l) (a3U l) := by
 unfold a0q.f a3U
 refine Ev.bind (a4C l hb 0 4 false (by omega) (by omega) (by omega)) ?_
 split
 ·exact Ev.now _
 ·split
  ·exact Ev.now _
  ·refine Ev.bind (a4C l hb 0 4 true (by omega) (by omega) (by omega)) ?_
   split
   ·exact Ev.now _
   ·split
    ·exact Ev.now _
    ·exact Ev.now _
def a3q (l : List Int) : Bool × Bool × Int × Int × Int :=
 if l.length < 4 then (false, false, 0, 0, 2) else
 if (a3U l).2.2.2.2 = false then (false, false, 0, 0, 3) else
 if l.length < 24 then (false, false, 0, 0, 2) else
 if a1p (l.drop 4) 0 2 (a3U l).1 ≠ 2 then (false, false, 0, 0, 3) else
 ((a3U l).1, (a3U l).2.1, a1p (l.drop 4) 12 4 (a3U l).1, a1p (l.drop 4) 16 4 (a3U l).1, 0)
theorem d2J (l : List Int) (hb : Bytes l) : Ev (fun k => pcap_Head.f k l) (a3q l) := by
 unfold pcap_Head.f a3q
 by_cases h : l.length < 4
 ·rw [if_pos h]
  exact Ev.congr (fun k => if_pos (by omega)) (Ev.now _)
 ·rw [if_neg h]
  refine Ev.congr (fun k => if_neg (by omega)) ?_
  refine Ev.bind (c8m l hb (by omega)) ?_
  generalize a3U l = o
  by_cases h1 : o.2.2.2.2 = false
  ·rw [if_pos h1]
   exact Ev.congr (fun k => if_pos h1) (Ev.now _)
  ·rw [if_neg h1]
   refine Ev.congr (fun k => if_neg h1) ?_
   by_cases h2 : l.length < 24
   ·rw [if_pos h2]
    exact Ev.congr (fun k => if_pos (by omega)) (Ev.now _)
   ·rw [if_neg h2]
    refine Ev.congr (fun k => if_neg (by omega)) ?_
    have hd : (l.drop 4).length = l.length - 4 := List.length_drop ..
    have hb4 : Bytes (l.drop 4) := hb.drop _
    refine Ev.bind (a4C (l.drop 4) hb4 0 2 o.1 (by omega) (by omega) (by omega)) ?_
    by_cases h3 : a1p (l.drop 4) 0 2 o.1 ≠ 2
    ·rw [if_pos h3]
     exact Ev.congr (fun k => if_pos h3) (Ev.now _)
    ·rw [if_neg h3]
     refine Ev.congr (fun k => if_neg h3) ?_
     refine Ev.bind (a4C (l.drop 4) hb4 2 2 o.1 (by omega) (by omega) (by omega)) ?_
     refine Ev.bind (a4C (l.drop 4) hb4 4 4 o.1 (by omega) (by omega) (by omega)) ?_
     refine Ev.bind (a4C (l.drop 4) hb4 8 4 o.1 (by omega) (by omega) (by omega)) ?_
     refine Ev.bind (a4C (l.drop 4) hb4 12 4 o.1 (by omega) (by omega) (by omega)) ?_
     refine Ev.bind (a4C (l.drop 4) hb4 16 4 o.1 (by omega) (by omega) (by omega)) ?_
     exact Ev.now _
theorem b41 (l : List Int) (hb : Bytes l) (big : Bool) (h : (a2y l big).2.2.2.2.2 = 0) : 16 ≤ (a2y l big).2.2.2.2.1 ∧ (a2y l big).2.2.2.2.1 ≤ l.length := by
 unfold a2y at h ⊢
 by_cases h1 : l.length < 16
 ·rw [if_pos h1] at h; exact absurd h (by decide)
 ·rw [if_neg h1] at h ⊢
  by_cases h2 : a1p l 8 4 big > 131072
  ·rw [if_pos h2] at h; exact absurd h (by decide)
  ·rw [if_neg h2] at h ⊢
   by_cases h3 : (l.length : Int) < 16 + a1p l 8 4 big
   ·rw [if_pos h3] at h; exact absurd h (by decide)
   ·rw [if_neg h3] at h ⊢
    have := a9c l hb 8 4 big (by omega) (by omega)
    exact ⟨by show 16 ≤ 16 + a1p l 8 4 big; omega, by show 16 + a1p l 8 4 big ≤ _; omega⟩
/-- The records from a place on; where the first fault stands, and which it is. -/
def b1U (big : Bool) : Nat → List Int → List S51 → Nat → List S51 × Int × Int
 | 0, _, acc, _ => (acc, 0, 0)
 | f + 1, l, acc, i =>
  if i < l.length then
   if (a2y (l.drop i) big).2.2.2.2.2 = 0 then
    b1U big f l (acc ++ [⟨(a2y (l.drop i) big).1, (a2y (l.drop i) big).2.1, (a2y (l.drop i) big).2.2.1, (a2y (l.drop i) big).2.2.2.1⟩]) (i + (a2y (l.drop i) big).2.2.2.2.1.toNat)
   else (acc, (i : Int), (a2y (l.drop i) big).2.2.2.2.2)
  else (acc, 0, 0)
theorem d2K (l : List Int) (hb : Bytes l) (hm : l.length ≤ 3518437208000) (big b2 : Bool) (s k0 : Int) (f : Nat) : ∀ (i : Nat) (acc : List S51), l.length < i + f → i ≤ l.length → acc.length ≤ i →
  Ev (fun k => pcap_Read.l0 k l acc i big b2 s k0) (big, b2, s, k0, b1U big f l acc i) := by
 induction f with
 | zero =>
  intro i acc h1 h2 h3
  omega
 | succ f ih =>
  intro i acc h1 h2 h3
  unfold b1U
  by_cases h : i < l.length
  ·rw [if_pos h]
   refine Ev.step (fun k => by rw [pcap_Read.l0, if_pos (by omega), if_pos (by omega), if_pos (by omega), Int.toNat_natCast]) ?_
   have hbd : Bytes (l.drop i) := hb.drop i
   have hld : (l.drop i).length = l.length - i := List.length_drop ..
   refine Ev.bind (d2I (l.drop i) hbd (by omega) big) ?_
   have hsz := b41 (l.drop i) hbd big
   generalize a2y (l.drop i) big = r at hsz ⊢
   by_cases he : r.2.2.2.2.2 = 0
   ·rw [if_pos he]
    have := hsz he
    refine Ev.congr (fun k => if_pos he) ?_
    refine Ev.congr (fun k => if_pos (by omega)) ?_
    have hw : wrap64 ((i : Int) + r.2.2.2.2.1) = ((i + r.2.2.2.2.1.toNat : Nat) : Int) := by rw [w64 (by omega) (by omega)]; omega
    rw [hw]
    exact ih _ _ (by omega) (by omega) (by rw [List.length_append]; simp only [List.length_cons, List.length_nil]; omega)
   ·rw [if_neg he]
    exact Ev.congr (fun k => if_neg he) (Ev.now _)
  ·rw [if_neg h]
   refine Ev.step (fun k => by rw [pcap_Read.l0, if_neg (by omega)]) ?_
   exact Ev.now _
def b0X (l : List Int) : Bool × Bool × Int × Int × List S51 × Int × Int :=
 if (a3q l).2.2.2.2 = 0 then ((a3q l).1, (a3q l).2.1, (a3q l).2.2.1, (a3q l).2.2.2.1, b1U (a3q l).1 (l.length + 1) l [] 24)
 else (false, false, 0, 0, [], 0, (a3q l).2.2.2.2)
theorem b9C (l : List Int) (h : (a3q l).2.2.2.2 = 0) : 24 ≤ l.length := by
 unfold a3q at h
 by_cases h1 : l.length < 4
 ·rw [if_pos h1] at h; exact absurd h (by decide)
 ·rw [if_neg h1] at h
  by_cases h2 : (a3U l).2.2.2.2 = false
  ·rw [if_pos h2] at h; exact absurd h (by decide)
  ·rw [if_neg h2] at h
   by_cases h3 : l.length < 24
   ·rw [if_pos h3] at h; exact absurd h (by decide)
   ·omega
theorem b6n (l : List Int) (hb : Bytes l) (hm : l.length ≤ 3518437208000) : Ev (fun k => pcap_Read.f k l) (b0X l) := by
 unfold pcap_Read.f b0X
 refine Ev.bind (d2J l hb) ?_
 by_cases h : (a3q l).2.2.2.2 = 0
 ·rw [if_pos h]
  refine Ev.congr (fun k => if_pos h) ?_
  have := b9C l h
  exact d2K l hb hm _ _ _ _ (l.length + 1) 24 [] (by omega) (by omega) (by simp)
 ·rw [if_neg h]
  exact Ev.congr (fun k => if_neg h) (Ev.now _)
theorem d2L (n : Int) (h0 : 0 ≤ n) (h1 : n < 18446744073709551616) (s : Nat) (hs : s ≤ 8) (big : Bool) (d : Nat) : ∀ (i : Nat), s - i = d → i ≤ s →
  Ev (fun k => O5.l0 k (n / 256 ^ i) (s : Int) big (U2 n i big) (i : Int)) (U2 n s big) := by
 induction d with
 | zero =>
  intro i hd hi
  obtain rfl : i = s := by omega
  refine Ev.step (f := fun _ => some (U2 n i big)) (fun k => ?_) (Ev.now _)
  rw [O5.l0, if_neg (by omega)]
 | succ d ih =>
  intro i hd hi
  refine Ev.step (f := fun k => O5.l0 k (n / 256 ^ (i + 1)) (s : Int) big (U2 n (i + 1) big) ((i + 1 : Nat) : Int)) (fun k => ?_) (ih (i + 1) (by omega) (by omega))
  have hq0 : 0 ≤ n / 256 ^ i := Int.ediv_nonneg h0 (Int.le_of_lt (Int.pow_pos (by decide)))
  have hq1 : n / 256 ^ i ≤ n := Int.ediv_le_self _ h0
  have hdv : IntKind.u64.wrap (Int.tdiv (n / 256 ^ i) 256) = n / 256 ^ (i + 1) := by
   rw [Int.tdiv_eq_ediv_of_nonneg hq0, Int.ediv_ediv_of_nonneg (Int.le_of_lt (Int.pow_pos (by decide))), ← Int.pow_succ, b1P]
   ·exact Int.ediv_nonneg h0 (Int.le_of_lt (Int.pow_pos (by decide)))
   ·exact Int.lt_of_le_of_lt (Int.ediv_le_self _ h0) h1
  have hmd : Int.tmod (n / 256 ^ i) 256 % 256 = n / 256 ^ i % 256 := by
   rw [Int.tmod_eq_emod_of_nonneg hq0]
   omega
  have hl : (U2 n i big).length = i := H9 _ _ _
  rw [O5.l0, if_pos (by omega), hdv, hmd, w64 (by omega) (by omega)]
  cases big
  ·simp only [Bool.false_eq_true, if_false]
   rw [if_pos (by omega)]
   have : U2 n i false ++ [n / 256 ^ i % 256] = U2 n (i + 1) false := by
    unfold U2
    simp only [Bool.false_eq_true, if_false]
    rw [b9p]
   rw [this]
   rfl
  ·simp only [if_true, Option.bind_some]
   rw [if_pos (by simp [hl]; omega)]
   have : [n / 256 ^ i % 256] ++ U2 n i true = U2 n (i + 1) true := by
    unfold U2
    simp only [if_true]
    rw [b9p, List.reverse_append]
    rfl
   rw [this]
   rfl
theorem b5S (n : Int) (s : Nat) (big : Bool) (h0 : 0 ≤ n) (h1 : n < 18446744073709551616) (hs : s ≤ 8) : Ev (fun k => O5.f k n (s : Int) big) (U2 n s big) := by
 have := d2L n h0 h1 s hs big s 0 (by omega) (by omega)
 have e : U2 n 0 big = [] := by unfold U2; cases big <;> rfl
 rw [e] at this
 simp only [Int.pow_zero, Int.ediv_one] at this
 exact this
/-- Numbers, each of so many bytes, one behind another. -/
def a3z (l : List Int) (s : Nat) (big : Bool) : List Int := (l.map fun n => U2 n s big).flatten
theorem a3r (l : List Int) (s : Nat) (big : Bool) : (a3z l s big).length = l.length * s := by
 unfold a3z
 induction l with
 | nil => simp
 | cons a l ih => rw [List.map_cons, List.flatten_cons, List.length_append, H9, ih, List.length_cons, Nat.add_mul]; omega
theorem c8n (l : List Int) (s : Nat) (big : Bool) (i : Nat) (hi : i < l.length) : a3z (l.take (i + 1)) s big = a3z (l.take i) s big ++ U2 l[i] s big := by
 unfold a3z
 rw [List.take_succ_eq_append_getElem hi, List.map_append, List.flatten_append]
 simp
theorem d2M (big : Bool) (s : Nat) (hs1 : 1 ≤ s) (hs : s ≤ 4) (l : List Int) (hl : l.length ≤ 8) (hr : ∀ x ∈ l, 0 ≤ x ∧ x < 256 ^ s) (d : Nat) : ∀ (i : Nat), l.length - i = d → i ≤ l.length →
  Ev (fun k => a0H.l0 k big s (a3z (l.take i) s big) l l.length i) (a3z l s big) := by
 induction d with
 | zero =>
  intro i hd hi
  obtain rfl : i = l.length := by omega
  refine Ev.step (fun k => by rw [a0H.l0, if_neg (by omega)]) ?_
  rw [List.take_length]
  exact Ev.now _
 | succ d ih =>
  intro i hd hi
  have hlt : i < l.length := by omega
  have hx := hr l[i] (List.getElem_mem hlt)
  have hp : (256 : Int) ^ s ≤ 256 ^ 4 := b0m hs
  have h4 : (256 : Int) ^ 4 = 4294967296 := by decide
  rw [h4] at hp
  have e1 : IntKind.u64.wrap (rd l (i : Int)) = l[i] := by rw [a8f i hlt]; exact b1P hx.1 (by omega)
  have hw : wrap64 ((i : Int) + 1) = ((i + 1 : Nat) : Int) := by rw [w64 (by omega) (by omega)]; omega
  have hf : fits l[i] (s : Int) = true := by
   unfold fits
   simp only [Int.toNat_natCast, Bool.and_eq_true, decide_eq_true_eq]
   exact ⟨⟨by omega, by omega⟩, hx.2⟩
  have hps := c6l l[i] (s : Int) big hx.1 (by omega)
  rw [hf, if_pos rfl, Int.toNat_natCast] at hps
  have hlen : (a3z (l.take i) s big).length + (U2 l[i] s big).length < 140737488355328 := by
   rw [a3r, H9, List.length_take]
   have : min i l.length * s ≤ 8 * 4 := Nat.mul_le_mul (by omega) hs
   omega
  refine Ev.step (fun k => by rw [a0H.l0, if_pos (by omega), if_pos (by omega), if_pos (by omega), e1]) ?_
  refine Ev.bind hps ?_
  refine Ev.congr (fun k => if_pos hlen) ?_
  have hg := ih (i + 1) (by omega) (by omega)
  rw [c8n l s big i hlt] at hg
  rw [hw]
  exact hg
theorem b2s (big : Bool) (s : Nat) (hs1 : 1 ≤ s) (hs : s ≤ 4) (l : List Int) (hl : l.length ≤ 8) (hr : ∀ x ∈ l, 0 ≤ x ∧ x < 256 ^ s) : Ev (fun k => a0H.f k big s l) (a3z l s big) :=
 d2M big s hs1 hs l hl hr l.length 0 (by omega) (by omega)
theorem a7x (l : List Int) (n : Int) (big : Bool) (h0 : 0 ≤ n) (h1 : n < 4294967296) (hl : l.length < 140737488355324) : Ev (fun k => O7.f k l n big) (l ++ U2 n 4 big) := by
 unfold O7.f
 rw [b1P h0 (by omega)]
 refine Ev.bind (b5S n 4 big h0 (by omega) (by omega)) ?_
 exact Ev.congr (fun k => if_pos (by rw [H9]; omega)) (Ev.now _)
def a3T (big : Bool) (r : S51) : List Int := a3z [r.f0, r.f1, (r.f3.length : Int), r.f2] 4 big ++ r.f3
def a3d (nano : Bool) : Int := if nano = true then 2712812621 else 2712847316
def a1k (big nano : Bool) (snap link : Int) : List Int := a3z [a3d nano] 4 big ++ (a3z [2, 4] 2 big ++ a3z [0, 0, snap, link] 4 big)
/-- Records behind what stands, or that one is too long. -/
def b9D (big : Bool) : List Int → List S51 → List Int × Int
 | y, [] => (y, 0)
 | y, r :: l => if (r.f3.length : Int) > 131072 then ([], 4) else b9D big (y ++ a3T big r) l
/-- How many bytes records take. -/
def a9d : List S51 → Nat
 | [] => 0
 | r :: l => 16 + r.f3.length + a9d l
def Good (r : S51) : Prop := (0 ≤ r.f0 ∧ r.f0 < 4294967296) ∧ (0 ≤ r.f1 ∧ r.f1 < 4294967296) ∧ (0 ≤ r.f2 ∧ r.f2 < 4294967296)
theorem c3H (l : List S51) (i : Nat) (h : i < l.length) : y9 l (i : Int) = l[i] := by
 unfold y9
 rw [Int.toNat_natCast, List.getD_eq_getElem?_getD, List.getElem?_eq_getElem h]
 rfl
theorem c3I : (256 : Int) ^ 4 = 4294967296 := by decide
theorem c6n (big n : Bool) (s k0 : Int) (l : List S51) (hm : l.length ≤ 4611686018427387904) (hg : ∀ r ∈ l, Good r) (d : Nat) : ∀ (i : Nat) (y : List Int), l.length - i = d → i ≤ l.length → y.length + a9d (l.drop i) < 140737488355328 →
  Ev (fun k => pcap_Put.l0 k y l l.length i big n s k0) (b9D big y (l.drop i)) := by
 induction d with
 | zero =>
  intro i y hd hi hc
  obtain rfl : i = l.length := by omega
  refine Ev.step (fun k => by rw [pcap_Put.l0, if_neg (by omega)]) ?_
  rw [List.drop_length]
  exact Ev.now _
 | succ d ih =>
  intro i y hd hi hc
  have hlt : i < l.length := by omega
  have hdr : l.drop i = l[i] :: l.drop (i + 1) := List.drop_eq_getElem_cons hlt
  have hgr := hg l[i] (List.getElem_mem hlt)
  have e1 := c3H l i hlt
  have hw : wrap64 ((i : Int) + 1) = ((i + 1 : Nat) : Int) := by rw [w64 (by omega) (by omega)]; omega
  rw [hdr] at hc ⊢
  have ih2 := ih (i + 1)
  generalize l[i] = r at hgr e1 hc ⊢
  obtain ⟨g0, g1, g2⟩ := hgr
  refine Ev.step (fun k => by rw [pcap_Put.l0, if_pos (by omega), if_pos (by omega), if_pos (by omega), e1]) ?_
  unfold a9d at hc
  unfold b9D
  by_cases h : (r.f3.length : Int) > 131072
  ·rw [if_pos h]
   exact Ev.congr (fun k => if_pos h) (Ev.now _)
  ·rw [if_neg h]
   refine Ev.congr (fun k => if_neg h) ?_
   have hmod : (r.f3.length : Int) % 4294967296 = r.f3.length := Int.emod_eq_of_lt (by omega) (by omega)
   rw [hmod]
   refine Ev.bind (b2s big 4 (by omega) (by omega) [r.f0, r.f1, (r.f3.length : Int), r.f2] (by simp) (by
    intro x hx
    rw [c3I]
    simp only [List.mem_cons, List.not_mem_nil, or_false] at hx
    rcases hx with rfl | rfl | rfl | rfl <;> omega)) ?_
   have hl := a3r [r.f0, r.f1, (r.f3.length : Int), r.f2] 4 big
   simp only [List.length_cons, List.length_nil] at hl
   unfold a3T
   generalize a3z [r.f0, r.f1, (r.f3.length : Int), r.f2] 4 big = z at hl ⊢
   refine Ev.congr (fun k => if_pos (by omega)) ?_
   refine Ev.congr (fun k => Option.bind_some ..) ?_
   refine Ev.congr (fun k => if_pos (by rw [List.length_append]; omega)) ?_
   rw [hw, List.append_assoc]
   exact ih2 _ (by omega) (by omega) (by rw [List.length_append, List.length_append]; omega)
theorem c8o (big n : Bool) (s k0 : Int) (l : List S51) (hm : l.length ≤ 4611686018427387904) (hg : ∀ r ∈ l, Good r) (d : Nat) : ∀ (i : Nat) (y : List Int), l.length - i = d → i ≤ l.length → y.length + a9d (l.drop i) < 140737488355300 →
  Ev (fun k => umpireref09_Put.l0 k l y i big n s k0) (b9D big y (l.drop i)) := by
 induction d with
 | zero =>
  intro i y hd hi hc
  obtain rfl : i = l.length := by omega
  refine Ev.step (fun k => by rw [umpireref09_Put.l0, if_neg (by omega)]) ?_
  rw [List.drop_length]
  exact Ev.now _
 | succ d ih =>
  intro i y hd hi hc
  have hlt : i < l.length := by omega
  have hdr : l.drop i = l[i] :: l.drop (i + 1) := List.drop_eq_getElem_cons hlt
  have hgr := hg l[i] (List.getElem_mem hlt)
  have e1 := c3H l i hlt
  have hw : wrap64 ((i : Int) + 1) = ((i + 1 : Nat) : Int) := by rw [w64 (by omega) (by omega)]; omega
  rw [hdr] at hc ⊢
  have ih2 := ih (i + 1)
  generalize l[i] = r at hgr e1 hc ⊢
  obtain ⟨g0, g1, g2⟩ := hgr
  refine Ev.step (fun k => by rw [umpireref09_Put.l0, if_pos (by omega), if_pos (by omega), e1]) ?_
  unfold a9d at hc
  unfold b9D
  by_cases h : (r.f3.length : Int) > 131072
  ·rw [if_pos h]
   exact Ev.congr (fun k => if_pos h) (Ev.now _)
  ·rw [if_neg h]
   refine Ev.congr (fun k => if_neg h) ?_
   have hmod : (r.f3.length : Int) % 4294967296 = r.f3.length := Int.emod_eq_of_lt (by omega) (by omega)
   rw [hmod]
   refine Ev.bind (a7x y r.f0 big g0.1 g0.2 (by omega)) ?_
   refine Ev.bind (a7x _ r.f1 big g1.1 g1.2 (by rw [List.length_append, H9]; omega)) ?_
   refine Ev.bind (a7x _ (r.f3.length : Int) big (by omega) (by omega) (by rw [List.length_append, List.length_append, H9, H9]; omega)) ?_
   refine Ev.bind (a7x _ r.f2 big g2.1 g2.2 (by rw [List.length_append, List.length_append, List.length_append, H9, H9, H9]; omega)) ?_
   have hz : y ++ U2 r.f0 4 big ++ U2 r.f1 4 big ++ U2 (r.f3.length : Int) 4 big ++ U2 r.f2 4 big = y ++ a3z [r.f0, r.f1, (r.f3.length : Int), r.f2] 4 big := by
    unfold a3z
    simp
   rw [hz]
   have hl := a3r [r.f0, r.f1, (r.f3.length : Int), r.f2] 4 big
   simp only [List.length_cons, List.length_nil] at hl
   unfold a3T
   generalize a3z [r.f0, r.f1, (r.f3.length : Int), r.f2] 4 big = z at hl ⊢
   refine Ev.congr (fun k => if_pos (by rw [List.length_append]; omega)) ?_
   rw [hw, List.append_assoc]
   exact ih2 _ (by omega) (by omega) (by rw [List.length_append, List.length_append]; omega)
theorem a5E (big nano : Bool) (s k0 : Int) : (a1k big nano s k0).length = 24 := by
 unfold a1k
 rw [List.length_append, List.length_append, a3r, a3r, a3r]
 rfl
theorem b1V (nano : Bool) : 0 ≤ a3d nano ∧ a3d nano < 4294967296 := by cases nano <;> decide
theorem f0u (big : Bool) : ([0, 0, 0, 0, 0, 0, 0, 0] : List Int) = U2 0 4 big ++ U2 0 4 big := by cases big <;> rfl
theorem c6o (big nano : Bool) (s k0 : Int) (l : List S51) (hm : l.length ≤ 4611686018427387904) (hg : ∀ r ∈ l, Good r) (hs : 0 ≤ s ∧ s < 4294967296) (hk : 0 ≤ k0 ∧ k0 < 4294967296) (hc : a9d l ≤ 140000000) :
  Ev (fun k => pcap_Put.f k big nano s k0 l) (b9D big (a1k big nano s k0) l) := by
 have hh := a5E big nano s k0
 have hloop := c6n big nano s k0 l hm hg l.length 0 (a1k big nano s k0) (by omega) (by omega) (by rw [List.drop_zero]; omega)
 rw [List.drop_zero] at hloop
 have hj : Ev (fun k => pcap_Put.j0 k l (a3d nano) big nano s k0) (b9D big (a1k big nano s k0) l) := by
  have hmk := b1V nano
  refine Ev.step (fun k => by rw [pcap_Put.j0]) ?_
  refine Ev.bind (b2s big 4 (by omega) (by omega) [a3d nano] (by simp) (by
   intro x hx
   rw [c3I]
   simp only [List.mem_cons, List.not_mem_nil, or_false] at hx
   rw [hx]; exact hmk)) ?_
  refine Ev.bind (b2s big 2 (by omega) (by omega) [2, 4] (by simp) (by
   intro x hx
   simp only [List.mem_cons, List.not_mem_nil, or_false] at hx
   rcases hx with rfl | rfl <;> decide)) ?_
  refine Ev.bind (b2s big 4 (by omega) (by omega) [0, 0, s, k0] (by simp) (by
   intro x hx
   rw [c3I]
   simp only [List.mem_cons, List.not_mem_nil, or_false] at hx
   rcases hx with rfl | rfl | rfl | rfl <;> omega)) ?_
  have g95 : x9.f [a3z [a3d nano] 4 big, a3z [2, 4] 2 big, a3z [0, 0, s, k0] 4 big] = some (a1k big nano s k0) := by
   have he : [a3z [a3d nano] 4 big, a3z [2, 4] 2 big, a3z [0, 0, s, k0] 4 big].flatten = a1k big nano s k0 := by
    unfold a1k
    simp
   unfold x9.f
   rw [he, if_pos (by rw [hh]; omega)]
  refine Ev.congr (fun k => by rw [g95, Option.bind_some]) ?_
  exact hloop
 unfold pcap_Put.f
 cases nano with
 | false => exact Ev.congr (fun k => if_neg (by decide)) hj
 | true => exact Ev.congr (fun k => if_pos rfl) hj
theorem b9E (big nano : Bool) (s k0 : Int) (hs : 0 ≤ s ∧ s < 4294967296) (hk : 0 ≤ k0 ∧ k0 < 4294967296) : Ev (fun k => umpireref09_Header.f k big nano s k0) (a1k big nano s k0) := by
 have hj : Ev (fun k => umpireref09_Header.j0 k (a3d nano) big nano s k0) (a1k big nano s k0) := by
  have hmk := b1V nano
  refine Ev.step (fun k => by rw [umpireref09_Header.j0]) ?_
  refine Ev.bind (a7x [] (a3d nano) big hmk.1 hmk.2 (by simp)) ?_
  refine Ev.bind (b5S 2 2 big (by omega) (by omega) (by omega)) ?_
  refine Ev.congr (fun k => if_pos (by rw [List.length_append, H9, H9]; simp)) ?_
  refine Ev.congr (fun k => Option.bind_some ..) ?_
  refine Ev.bind (b5S 4 2 big (by omega) (by omega) (by omega)) ?_
  refine Ev.congr (fun k => if_pos (by rw [List.length_append, List.length_append, H9, H9, H9]; simp)) ?_
  refine Ev.congr (fun k => Option.bind_some ..) ?_
  refine Ev.congr (fun k => Option.bind_some ..) ?_
  refine Ev.congr (fun k => if_pos (by simp only [List.length_append, H9, List.length_cons, List.length_nil]; omega)) ?_
  refine Ev.bind (a7x _ s big hs.1 hs.2 (by simp only [List.length_append, H9, List.length_cons, List.length_nil]; omega)) ?_
  refine Ev.bind (a7x _ k0 big hk.1 hk.2 (by simp only [List.length_append, H9, List.length_cons, List.length_nil]; omega)) ?_
  have he : [] ++ U2 (a3d nano) 4 big ++ U2 2 2 big ++ U2 4 2 big ++ [0, 0, 0, 0, 0, 0, 0, 0] ++ U2 s 4 big ++ U2 k0 4 big = a1k big nano s k0 := by
   rw [f0u big]
   unfold a1k a3z
   simp
  rw [he]
  exact Ev.now _
 unfold umpireref09_Header.f
 cases nano with
 | false => exact Ev.congr (fun k => if_neg (by decide)) hj
 | true => exact Ev.congr (fun k => if_pos rfl) hj
theorem c3J (big nano : Bool) (s k0 : Int) (l : List S51) (hm : l.length ≤ 4611686018427387904) (hg : ∀ r ∈ l, Good r) (hs : 0 ≤ s ∧ s < 4294967296) (hk : 0 ≤ k0 ∧ k0 < 4294967296) (hc : a9d l ≤ 140000000) :
  Ev (fun k => umpireref09_Put.f k big nano s k0 l) (b9D big (a1k big nano s k0) l) := by
 have hh := a5E big nano s k0
 have hloop := c8o big nano s k0 l hm hg l.length 0 (a1k big nano s k0) (by omega) (by omega) (by rw [List.drop_zero]; omega)
 rw [List.drop_zero] at hloop
 unfold umpireref09_Put.f
 exact Ev.bind (b9E big nano s k0 hs hk) hloop
theorem e3i (p x q : List Int) (big : Bool) : a1p (p ++ x ++ q) p.length x.length big = a81 x big := by
 unfold a1p
 rw [show p.length + x.length = (p ++ x).length from (List.length_append).symm, List.take_left, List.drop_left]
theorem a7V {l : List Int} {a n : Nat} (p x q : List Int) (big : Bool) (hl : l = p ++ x ++ q) (ha : a = p.length) (hn : n = x.length) : a1p l a n big = a81 x big := by
 subst hl ha hn
 exact e3i p x q big
theorem b0n (L : List Int) (m a n : Nat) (big : Bool) (h : a + n ≤ m) : a1p (L.take m) a n big = a1p L a n big := by
 unfold a1p
 rw [List.take_take, Nat.min_eq_left h]
theorem a7y (n : Int) (big : Bool) (h0 : 0 ≤ n) (h1 : n < 4294967296) : a81 (U2 n 4 big) big = n := b5P n 4 big h0 (by rw [c3I]; exact h1)
def Fine (r : S51) : Prop := Q.Good r ∧ (r.f3.length : Int) ≤ 131072
theorem e3j (big : Bool) (r : S51) : a3T big r = U2 r.f0 4 big ++ (U2 r.f1 4 big ++ (U2 (r.f3.length : Int) 4 big ++ (U2 r.f2 4 big ++ r.f3))) := by
 unfold a3T a3z
 simp
theorem a9D (big : Bool) (r : S51) : (a3T big r).length = 16 + r.f3.length := by
 unfold a3T
 rw [List.length_append, a3r]
 rfl
theorem e3k (big : Bool) (r : S51) (q : List Int) (h : Fine r) :
  a1p (a3T big r ++ q) 0 4 big = r.f0 ∧ a1p (a3T big r ++ q) 4 4 big = r.f1 ∧ a1p (a3T big r ++ q) 8 4 big = r.f3.length ∧ a1p (a3T big r ++ q) 12 4 big = r.f2 := by
 obtain ⟨⟨g0, g1, g2⟩, hl⟩ := h
 rw [e3j]
 refine ⟨?_, ?_, ?_, ?_⟩
 ·refine (a7V [] (U2 r.f0 4 big) (U2 r.f1 4 big ++ (U2 (r.f3.length : Int) 4 big ++ (U2 r.f2 4 big ++ r.f3)) ++ q) big (by simp) rfl (H9 ..).symm).trans ?_
  exact a7y _ _ g0.1 g0.2
 ·refine (a7V (U2 r.f0 4 big) (U2 r.f1 4 big) (U2 (r.f3.length : Int) 4 big ++ (U2 r.f2 4 big ++ r.f3) ++ q) big (by simp) (H9 ..).symm (H9 ..).symm).trans ?_
  exact a7y _ _ g1.1 g1.2
 ·refine (a7V (U2 r.f0 4 big ++ U2 r.f1 4 big) (U2 (r.f3.length : Int) 4 big) (U2 r.f2 4 big ++ r.f3 ++ q) big (by simp) (by rw [List.length_append, H9, H9]) (H9 ..).symm).trans ?_
  exact a7y _ _ (by omega) (by omega)
 ·refine (a7V (U2 r.f0 4 big ++ U2 r.f1 4 big ++ U2 (r.f3.length : Int) 4 big) (U2 r.f2 4 big) (r.f3 ++ q) big (by simp) (by rw [List.length_append, List.length_append, H9, H9, H9]) (H9 ..).symm).trans ?_
  exact a7y _ _ g2.1 g2.2
theorem d2N (big : Bool) (r : S51) (q : List Int) (h : Fine r) : a2y (a3T big r ++ q) big = (r.f0, r.f1, r.f2, r.f3, 16 + (r.f3.length : Int), 0) := by
 obtain ⟨e0, e1, e2, e3⟩ := e3k big r q h
 have hl := a9D big r
 unfold a2y
 rw [e0, e1, e2, e3, if_neg (by rw [List.length_append]; omega), if_neg (by have := h.2; omega), if_neg (by rw [List.length_append]; omega)]
 have hd : ((a3T big r ++ q).drop 16).take (r.f3.length : Int).toNat = r.f3 := by
  rw [Int.toNat_natCast]
  unfold a3T
  rw [List.append_assoc, List.drop_left' (by rw [a3r]; rfl), List.take_left]
 rw [hd]
theorem b9F (big nano : Bool) (s k0 : Int) : a1k big nano s k0 = U2 (a3d nano) 4 big ++ (U2 2 2 big ++ (U2 4 2 big ++ (U2 0 4 big ++ (U2 0 4 big ++ (U2 s 4 big ++ U2 k0 4 big))))) := by
 unfold a1k a3z
 simp
theorem c6p (big nano : Bool) (s k0 : Int) (q : List Int) (b2 : Bool) : a1p (a1k big nano s k0 ++ q) 0 4 b2 = a81 (U2 (a3d nano) 4 big) b2 := by
 rw [b9F]
 exact a7V [] (U2 (a3d nano) 4 big) (U2 2 2 big ++ (U2 4 2 big ++ (U2 0 4 big ++ (U2 0 4 big ++ (U2 s 4 big ++ U2 k0 4 big)))) ++ q) b2 (by simp) rfl (H9 ..).symm
theorem c6q (big nano : Bool) (s k0 : Int) (q : List Int) (n : Nat) (h : 4 ≤ n) : a3U ((a1k big nano s k0 ++ q).take n) = (big, nano, 0, 0, true) := by
 unfold a3U
 rw [b0n _ _ _ _ _ (by omega), b0n _ _ _ _ _ (by omega), c6p, c6p]
 cases big <;> cases nano <;> decide
theorem b1W (big nano : Bool) (s k0 : Int) (hs : 0 ≤ s ∧ s < 4294967296) (hk : 0 ≤ k0 ∧ k0 < 4294967296) (q : List Int) (n : Nat) (hn : n ≤ (a1k big nano s k0 ++ q).length) (h : 24 ≤ n) : a3q ((a1k big nano s k0 ++ q).take n) = (big, nano, s, k0, 0) := by
 have hl : ((a1k big nano s k0 ++ q).take n).length = n := by rw [List.length_take]; omega
 have hd : ((a1k big nano s k0 ++ q).take n).drop 4 = (U2 2 2 big ++ (U2 4 2 big ++ (U2 0 4 big ++ (U2 0 4 big ++ (U2 s 4 big ++ U2 k0 4 big)))) ++ q).take (n - 4) := by
  rw [List.drop_take, b9F, List.append_assoc, List.drop_left' (H9 ..)]
 have e1 : a1p (((a1k big nano s k0 ++ q).take n).drop 4) 0 2 big = 2 := by
  rw [hd, b0n _ _ _ _ _ (by omega)]
  refine (a7V [] (U2 2 2 big) (U2 4 2 big ++ (U2 0 4 big ++ (U2 0 4 big ++ (U2 s 4 big ++ U2 k0 4 big))) ++ q) big (by simp) rfl (H9 ..).symm).trans ?_
  exact b5P 2 2 big (by decide) (by decide)
 have e2 : a1p (((a1k big nano s k0 ++ q).take n).drop 4) 12 4 big = s := by
  rw [hd, b0n _ _ _ _ _ (by omega)]
  refine (a7V (U2 2 2 big ++ U2 4 2 big ++ U2 0 4 big ++ U2 0 4 big) (U2 s 4 big) (U2 k0 4 big ++ q) big (by simp) (by simp only [List.length_append, H9]) (H9 ..).symm).trans ?_
  exact a7y _ _ hs.1 hs.2
 have e3 : a1p (((a1k big nano s k0 ++ q).take n).drop 4) 16 4 big = k0 := by
  rw [hd, b0n _ _ _ _ _ (by omega)]
  refine (a7V (U2 2 2 big ++ U2 4 2 big ++ U2 0 4 big ++ U2 0 4 big ++ U2 s 4 big) (U2 k0 4 big) q big (by simp) (by simp only [List.length_append, H9]) (H9 ..).symm).trans ?_
  exact a7y _ _ hk.1 hk.2
 unfold a3q
 rw [hl, if_neg (by omega), c6q big nano s k0 q n (by omega), if_neg (by simp), if_neg (by omega)]
 show (if a1p (((a1k big nano s k0 ++ q).take n).drop 4) 0 2 big ≠ 2 then _ else _) = _
 rw [e1, if_neg (by decide)]
 show (big, nano, a1p (((a1k big nano s k0 ++ q).take n).drop 4) 12 4 big, a1p (((a1k big nano s k0 ++ q).take n).drop 4) 16 4 big, (0 : Int)) = _
 rw [e2, e3]
theorem d2O (l : List Int) (hb : Bytes l) (a n : Nat) (big : Bool) (h : a + n ≤ l.length) : U2 (a1p l a n big) n big = (l.take (a + n)).drop a := by
 have hl := b7M l a n h
 have := c0N ((l.take (a + n)).drop a) big ((hb.take _).drop _)
 rw [hl] at this
 exact this
theorem d2P (l : List Int) (d a n : Nat) (big : Bool) : a1p (l.drop d) a n big = a1p l (d + a) n big := by
 unfold a1p
 rw [List.take_drop, List.drop_drop, Nat.add_assoc]
/-- The mark with which bytes begin. -/
theorem d7Q (l : List Int) (hb : Bytes l) (h : 4 ≤ l.length) (b n : Bool) : (a1p l 0 4 b = a3d n) ↔ l.take 4 = U2 (a3d n) 4 b := by
 have h1 := d2O l hb 0 4 b (by omega)
 rw [Nat.zero_add, List.drop_zero] at h1
 constructor
 ·intro e
  rw [← h1, e]
 ·intro e
  have hr := b1V n
  have : a1p l 0 4 b = a81 (l.take 4) b := by unfold a1p; rw [Nat.zero_add, List.drop_zero]
  rw [this, e]
  exact a7y _ _ hr.1 hr.2
theorem e3l : a3d true = 2712812621 := rfl
theorem e3m : a3d false = 2712847316 := rfl
theorem c6r (l : List Int) (hb : Bytes l) (h : 4 ≤ l.length) : a3U l =
  if l.take 4 = U2 (a3d false) 4 false then (false, false, 0, 0, true) else if l.take 4 = U2 (a3d true) 4 false then (false, true, 0, 0, true) else
  if l.take 4 = U2 (a3d false) 4 true then (true, false, 0, 0, true) else if l.take 4 = U2 (a3d true) 4 true then (true, true, 0, 0, true) else (false, false, 0, 0, false) := by
 unfold a3U
 rw [← e3m, ← e3l]
 simp only [d7Q l hb h]
def c6s (l : List Int) (b n : Bool) : Bool × Bool × Int × Int × Int :=
 if l.length < 24 then (false, false, 0, 0, 2) else if a1p l 4 2 b = 2 then (b, n, a1p l 16 4 b, a1p l 20 4 b, 0) else (false, false, 0, 0, 3)
theorem d2Q (l : List Int) (hb : Bytes l) (hm : l.length ≤ 4611686018427387904) (b n : Bool) : Ev (fun k => umpireref09_Head.tail k l b n) (c6s l b n) := by
 unfold umpireref09_Head.tail c6s
 by_cases h : l.length < 24
 ·rw [if_pos h]
  exact Ev.congr (fun k => if_pos (by omega)) (Ev.now _)
 ·rw [if_neg h]
  refine Ev.congr (fun k => if_neg (by omega)) ?_
  have hg := c0T ((l.take 6).drop 4) ((hb.take _).drop _) (by rw [List.length_drop, List.length_take]; omega) b
  refine Ev.bind hg ?_
  show Ev _ (if a1p l 4 2 b = 2 then _ else _)
  have he : a81 ((l.take 6).drop 4) b = a1p l 4 2 b := rfl
  rw [he]
  by_cases h2 : a1p l 4 2 b = 2
  ·rw [if_pos h2]
   refine Ev.congr (fun k => if_pos h2) ?_
   refine Ev.bind (a8C l hb 16 b hm (by omega)) ?_
   refine Ev.bind (a8C l hb 20 b hm (by omega)) ?_
   exact Ev.now _
  ·rw [if_neg h2]
   exact Ev.congr (fun k => if_neg h2) (Ev.now _)
def d7R (l : List Int) : Nat → Nat → Bool × Bool × Int × Int × Int
 | 0, _ => (false, false, 0, 0, 3)
 | d + 1, j => if l.take 4 = U2 (a3d ((j : Int) / 2 == 1)) 4 ((j : Int) % 2 == 1) then c6s l ((j : Int) % 2 == 1) ((j : Int) / 2 == 1) else d7R l d (j + 1)
theorem d7S (l : List Int) (hb : Bytes l) (hm : l.length ≤ 4611686018427387904) (d : Nat) : ∀ j : Nat, Ev (fun k => umpireref09_Head.c5R k l d j) (d7R l d j) := by
 induction d with
 | zero => intro j; exact Ev.now _
 | succ d ih =>
  intro j
  unfold umpireref09_Head.c5R d7R
  generalize ((j : Int) / 2 == 1) = n
  generalize ((j : Int) % 2 == 1) = b
  refine Ev.bind (b9E b n 0 0 (by decide) (by decide)) ?_
  refine Ev.congr (fun k => if_pos (by rw [a5E]; decide)) ?_
  have ht : (a1k b n 0 0).take 4 = U2 (a3d n) 4 b := by rw [b9F, List.take_left' (H9 ..)]
  rw [ht]
  by_cases h : l.take 4 = U2 (a3d n) 4 b
  ·rw [if_pos h]
   exact Ev.congr (fun k => if_pos (by rw [h])) (d2Q l hb hm b n)
  ·rw [if_neg h]
   exact Ev.congr (fun k => if_neg (fun e => h (d2r (b3D _ _ _) (hb.take 4) e).symm)) (ih _)
theorem c3K (l : List Int) (hb : Bytes l) (hm : l.length ≤ 4611686018427387904) : Ev (fun k => umpireref09_Head.f k l) (a3q l) := by
 unfold umpireref09_Head.f a3q
 by_cases h : l.length < 4
 ·rw [if_pos h]
  exact Ev.congr (fun k => if_pos (by omega)) (Ev.now _)
 ·rw [if_neg h]
  refine Ev.congr (fun k => if_neg (by omega)) ?_
  have hs := d7S l hb hm 4 0
  suffices he : d7R l 4 0 = (if (a3U l).2.2.2.2 = false then (false, false, 0, 0, 3) else if l.length < 24 then (false, false, 0, 0, 2) else if a1p (l.drop 4) 0 2 (a3U l).1 ≠ 2 then (false, false, 0, 0, 3) else ((a3U l).1, (a3U l).2.1, a1p (l.drop 4) 12 4 (a3U l).1, a1p (l.drop 4) 16 4 (a3U l).1, 0)) by
   rw [← he]; exact hs
  rw [c6r l hb (by omega)]
  simp only [d2P]
  simp only [d7R]
  have e0 : ((((0 : Nat) : Int)) % 2 == 1) = false := by decide
  have e0' : ((((0 : Nat) : Int)) / 2 == 1) = false := by decide
  have e1 : ((((0 + 1 : Nat) : Int)) % 2 == 1) = true := by decide
  have e1' : ((((0 + 1 : Nat) : Int)) / 2 == 1) = false := by decide
  have e2 : ((((0 + 1 + 1 : Nat) : Int)) % 2 == 1) = false := by decide
  have e2' : ((((0 + 1 + 1 : Nat) : Int)) / 2 == 1) = true := by decide
  have e3 : ((((0 + 1 + 1 + 1 : Nat) : Int)) % 2 == 1) = true := by decide
  have e3' : ((((0 + 1 + 1 + 1 : Nat) : Int)) / 2 == 1) = true := by decide
  rw [e0, e0', e1, e1', e2, e2', e3, e3']
  have d1 : U2 (a3d false) 4 true ≠ U2 (a3d true) 4 false := by decide
  have hgo : ∀ b n : Bool, c6s l b n = (if (true : Bool) = false then (false, false, 0, 0, 3) else if l.length < 24 then (false, false, 0, 0, 2) else if a1p l (4 + 0) 2 b ≠ 2 then (false, false, 0, 0, 3) else (b, n, a1p l (4 + 12) 4 b, a1p l (4 + 16) 4 b, 0)) := by
   intro b n
   unfold c6s
   rw [if_neg (show ¬ ((true : Bool) = false) by decide)]
   by_cases q : l.length < 24
   ·rw [if_pos q, if_pos q]
   ·rw [if_neg q, if_neg q]
    by_cases q2 : a1p l 4 2 b = 2
    ·rw [if_pos q2, if_neg (by simpa using q2)]
    ·rw [if_neg q2, if_pos (by simpa using q2)]
  by_cases p1 : l.take 4 = U2 (a3d false) 4 false
  ·rw [if_pos p1, if_pos p1]; exact hgo _ _
  ·rw [if_neg p1, if_neg p1]
   by_cases p2 : l.take 4 = U2 (a3d false) 4 true
   ·rw [if_pos p2, if_neg (fun e => d1 (p2.symm.trans e)), if_pos p2]; exact hgo _ _
   ·rw [if_neg p2]
    by_cases p3 : l.take 4 = U2 (a3d true) 4 false
    ·rw [if_pos p3, if_pos p3]; exact hgo _ _
    ·rw [if_neg p3, if_neg p3, if_neg p2]
     by_cases p4 : l.take 4 = U2 (a3d true) 4 true
     ·rw [if_pos p4, if_pos p4]; exact hgo _ _
     ·rw [if_neg p4, if_neg p4]; rfl
theorem c3M (l : List Int) (hb : Bytes l) (hm : l.length ≤ 3518437208000) (big b2 : Bool) (s k0 : Int) (f : Nat) : ∀ (i : Nat) (acc : List S51), l.length < i + f → i ≤ l.length → acc.length ≤ i →
  Ev (fun k => umpireref09_Read.l0 k l acc i big b2 s k0) (big, b2, s, k0, b1U big f l acc i) := by
 induction f with
 | zero =>
  intro i acc h1 h2 h3
  omega
 | succ f ih =>
  intro i acc h1 h2 h3
  unfold b1U
  by_cases h : i < l.length
  ·rw [if_pos h]
   refine Ev.step (fun k => by rw [umpireref09_Read.l0, if_pos (by omega), if_pos (by omega), if_pos (by omega), Int.toNat_natCast]) ?_
   have hbd : Bytes (l.drop i) := hb.drop i
   have hld : (l.drop i).length = l.length - i := List.length_drop ..
   refine Ev.bind (c3G (l.drop i) hbd (by omega) big) ?_
   have hsz := b41 (l.drop i) hbd big
   generalize a2y (l.drop i) big = r at hsz ⊢
   by_cases he : r.2.2.2.2.2 = 0
   ·rw [if_pos he]
    have := hsz he
    refine Ev.congr (fun k => if_pos he) ?_
    refine Ev.congr (fun k => if_pos (by omega)) ?_
    have hw : wrap64 ((i : Int) + r.2.2.2.2.1) = ((i + r.2.2.2.2.1.toNat : Nat) : Int) := by rw [w64 (by omega) (by omega)]; omega
    rw [hw]
    exact ih _ _ (by omega) (by omega) (by rw [List.length_append]; simp only [List.length_cons, List.length_nil]; omega)
   ·rw [if_neg he]
    exact Ev.congr (fun k => if_neg he) (Ev.now _)
  ·rw [if_neg h]
   refine Ev.step (fun k => by rw [umpireref09_Read.l0, if_neg (by omega)]) ?_
   exact Ev.now _
theorem c3N (l : List Int) (hb : Bytes l) (hm : l.length ≤ 3518437208000) : Ev (fun k => umpireref09_Read.f k l) (b0X l) := by
 unfold umpireref09_Read.f b0X
 refine Ev.bind (c3K l hb (by omega)) ?_
 by_cases h : (a3q l).2.2.2.2 = 0
 ·rw [if_pos h]
  refine Ev.congr (fun k => if_pos h) ?_
  have := b9C l h
  exact c3M l hb hm _ _ _ _ (l.length + 1) 24 [] (by omega) (by omega) (by simp)
 ·rw [if_neg h]
  exact Ev.congr (fun k => if_neg h) (Ev.now _)
theorem a9E (big : Bool) (b : List Int) : ∀ (m : List S51) (i : Nat) (acc : List S51) (f : Nat), (∀ r ∈ m, Fine r) → b.drop i = (m.map (a3T big)).flatten → i ≤ b.length → b.length < i + f →
  b1U big f b acc i = (acc ++ m, 0, 0)
 | [], i, acc, f, hf, hb, hi, hfu => by
  have : (b.drop i).length = 0 := by rw [hb]; rfl
  rw [List.length_drop] at this
  cases f with
  | zero => omega
  | succ f =>
   unfold b1U
   rw [if_neg (by omega), List.append_nil]
 | r :: m, i, acc, 0, hf, hb, hi, hfu => by omega
 | r :: m, i, acc, f + 1, hf, hb, hi, hfu => by
  have hr := hf r (List.mem_cons_self ..)
  have hfl : ((r :: m).map (a3T big)).flatten = a3T big r ++ (m.map (a3T big)).flatten := by rw [List.map_cons, List.flatten_cons]
  rw [hfl] at hb
  have hlt : i + (16 + r.f3.length) ≤ b.length := by
   have h1 : (b.drop i).length = _ := congrArg List.length hb
   rw [List.length_drop, List.length_append, a9D] at h1
   omega
  have hdb : b.drop (i + (16 + r.f3.length)) = (m.map (a3T big)).flatten := by
   rw [← List.drop_drop, hb, List.drop_left' (a9D big r)]
  have hsz : i + (16 + (r.f3.length : Int)).toNat = i + (16 + r.f3.length) := by omega
  unfold b1U
  rw [if_pos (by omega), hb, d2N big r _ hr, if_pos rfl]
  show b1U big f b (acc ++ [(⟨r.f0, r.f1, r.f2, r.f3⟩ : S51)]) (i + (16 + (r.f3.length : Int)).toNat) = _
  rw [hsz]
  show b1U big f b (acc ++ [r]) (i + (16 + r.f3.length)) = _
  rw [a9E big b m (i + (16 + r.f3.length)) (acc ++ [r]) f (fun x hx => hf x (List.mem_cons_of_mem _ hx)) hdb (by omega) (by omega)]
  simp
abbrev Note := S58
/-- What is told of a note that came in. -/
def b0Y (x : Note) : Prop := (-9223372036854775808 ≤ x.f0 ∧ x.f0 ≤ 9223372036854775807) ∧ (0 ≤ x.f1 ∧ x.f1 < 4294967296) ∧ Bytes x.f2
theorem e3n (l : List Note) (i : Nat) (h : i < l.length) : F5 l (i : Int) = l[i] := by
 unfold F5
 rw [Int.toNat_natCast, List.getD_eq_getElem?_getD, List.getElem?_eq_getElem h]
 rfl
def a2z (kind n : Int) (data : List Int) : Bool :=
 if kind = 1 ∨ kind = 2 then n == 0
 else if 0 < data.length then false
 else if kind = 3 ∨ kind = 4 then n == 0
 else if kind = 5 ∨ kind = 7 then true
 else if kind = 6 then decide (n < 256) else false
theorem b2t {kind n : Int} {data : List Int} (h : a2z kind n data = true) : 1 ≤ kind ∧ kind ≤ 7 := by
 unfold a2z at h
 (repeat' split at h) <;> first | omega | cases h
/-- A note's bytes, of one that may be. -/
def a6U (kind n : Int) (data : List Int) : List Int :=
 kind :: (if kind ≤ 2 then ((data.length : Int) / 256) :: ((data.length : Int) % 256) :: data else if kind = 6 then [n] else if kind = 5 ∨ kind = 7 then U2 n 4 true else [])
theorem b9G (kind n : Int) (data : List Int) : (a6U kind n data).length ≤ data.length + 5 := by
 unfold a6U
 (repeat' split) <;> simp [H9] <;> omega
theorem c8p {kind n : Int} {data : List Int} (h : a2z kind n data = true) (hn : 0 ≤ n) (hd : Bytes data) (hl : data.length ≤ 65535) : Bytes (a6U kind n data) := by
 have hk := b2t h
 unfold a6U
 refine Bytes.cons (by omega) ?_
 split
 ·exact Bytes.cons (by omega) (Bytes.cons (by omega) hd)
 ·split
  ·rename_i h1 h2
   subst h2
   unfold a2z at h
   rw [if_neg (by omega)] at h
   split at h
   ·cases h
   ·rw [if_neg (by omega), if_neg (by omega), if_pos rfl] at h
    exact Bytes.cons ⟨hn, by simpa using h⟩ Bytes.nil
  ·split
   ·exact b3D _ _ _
   ·exact Bytes.nil
/-- The bytes of notes, behind others, or the first error. -/
def b6o (acc : List Int) : List Note → List Int × Int
 | [] => (acc, 0)
 | x :: l => if a2z x.f0 x.f1 x.f2 then (if 65535 < x.f2.length then ([], 4) else b6o (acc ++ a6U x.f0 x.f1 x.f2) l) else ([], 1)
/-- How many bytes at most notes have. -/
def tot : List Note → Nat
 | [] => 0
 | x :: l => x.f2.length + 5 + tot l
theorem c8q (l m : List Note) : tot (l ++ m) = tot l + tot m := by
 induction l with
 | nil => simp [tot]
 | cons a l ih =>
  simp only [List.cons_append, tot, ih]
  omega
/-- May all be, and is none too long? -/
def b08 (l : List Note) : Bool := l.all fun x => a2z x.f0 x.f1 x.f2 && decide (x.f2.length ≤ 65535)
def a5R (l : List Note) : List Int := l.flatMap fun x => a6U x.f0 x.f1 x.f2
theorem d7T (l : List Note) : ∀ acc, b08 l = true → b6o acc l = (acc ++ a5R l, 0) := by
 induction l with
 | nil => intro acc _; simp [b6o, a5R]
 | cons a l ih =>
  intro acc h
  simp only [b08, List.all_cons, Bool.and_eq_true, decide_eq_true_eq] at h
  rw [b6o, if_pos h.1.1, if_neg (by omega), ih _ (by simpa only [b08, List.all_eq_true, Bool.and_eq_true, decide_eq_true_eq] using h.2)]
  simp [a5R, List.append_assoc]
theorem kinds {k : Int} (h1 : ¬ k < 1) (h2 : ¬ k > 7) : k = 1 ∨ k = 2 ∨ k = 3 ∨ k = 4 ∨ k = 5 ∨ k = 6 ∨ k = 7 := by omega
theorem c8r {n : Int} (h1 : n < 4294967296) : fits n 4 = true := by
 unfold fits
 simp only [Bool.and_eq_true, decide_eq_true_eq]
 refine ⟨⟨by omega, by omega⟩, ?_⟩
 rw [show (256 : Int) ^ (4 : Int).toNat = 4294967296 by decide]
 exact h1
theorem d7U (n : Int) : fits n 1 = decide (n < 256) := by
 unfold fits
 rw [show (256 : Int) ^ (1 : Int).toNat = 256 by decide]
 simp
theorem d7V (n : Int) : fits n 0 = false := by
 unfold fits
 simp
theorem f0v (k : Nat) (kind n : Int) (data : List Int) (h1 : ¬ kind < 1) (h2 : ¬ kind > 7) (hn0 : 0 ≤ n) (hn : n < 4294967296) : a1w.j0 (k + 1) false kind n data = some (a2z kind n data) := by
 rw [a1w.j0, if_neg (by decide), if_pos (by omega), if_pos (by omega), b1P hn0 (by omega)]
 have f : ∀ s, a19.f n s = some (fits n s) := fun s => c0S n s hn0 (by omega)
 unfold a2z
 by_cases e : n = 0
 ·by_cases hd : 0 < data.length
  ·rcases kinds h1 h2 with rfl | rfl | rfl | rfl | rfl | rfl | rfl <;> simp [J5, F8, e, hd]
  ·rcases kinds h1 h2 with rfl | rfl | rfl | rfl | rfl | rfl | rfl <;> simp [J5, F8, e, hd]
 ·by_cases hd : 0 < data.length
  ·rcases kinds h1 h2 with rfl | rfl | rfl | rfl | rfl | rfl | rfl <;> simp [J5, F8, e, hd]
  ·rcases kinds h1 h2 with rfl | rfl | rfl | rfl | rfl | rfl | rfl <;> simp [J5, F8, e, hd, f, c8r hn, d7U]
theorem d1H {kind n : Int} {data : List Int} (h : kind < 1 ∨ kind > 7) : a2z kind n data = false := by
 cases e : a2z kind n data with
 | false => rfl
 | true =>
  have := b2t e
  omega
theorem c8s (kind n : Int) (data : List Int) (hn0 : 0 ≤ n) (hn : n < 4294967296) : Ev (fun k => a1w.f k kind n data) (a2z kind n data) := by
 unfold a1w.f
 by_cases h1 : kind < 1
 ·simp only [if_pos h1]
  rw [d1H (.inl h1)]
  exact Ev.step (f := fun _ => some false) (fun k => by rw [a1w.j0, if_pos rfl]) (Ev.now _)
 ·simp only [if_neg h1]
  by_cases h2 : kind > 7
  ·simp only [h2, decide_true]
   rw [d1H (.inr h2)]
   exact Ev.step (f := fun _ => some false) (fun k => by rw [a1w.j0, if_pos rfl]) (Ev.now _)
  ·simp only [h2, decide_false]
   exact Ev.step (f := fun _ => some (a2z kind n data)) (fun k => f0v k kind n data h1 h2 hn0 hn) (Ev.now _)
theorem f0w {n : Int} (h0 : 0 ≤ n) (h : n < 256) : U2 n 1 true = [n] := by
 unfold U2 leb leb
 simp
 omega
/-- One note, laid behind others by the program. -/
theorem d7W (x : Note) (hx : b0Y x) (hm : a2z x.f0 x.f1 x.f2 = true) (hl : x.f2.length ≤ 65535) (acc : List Int) (ha : acc.length + (x.f2.length + 5) < 140737488355328) {G : Nat → List Int → Option (List Int × Int)} {r : List Int × Int}
  (hG : Ev (fun k => G k (acc ++ a6U x.f0 x.f1 x.f2)) r) :
  Ev (fun k => (if acc.length < 140737488355328 then ((some (acc ++ [(x.f0) % 256] : List Int)).bind fun e3o => (if 0 ≤ (x.f0) then (if (x.f0) < 8 then (if (J5 F8 (x.f0)).f0 = true then ((some (([(((x.f2).length : Int) / 256) % 256, (((x.f2).length : Int)) % 256] : List Int) : List Int)).bind fun f9g => (if e3o.length + f9g.length < 140737488355328 then ((some (e3o ++ f9g : List Int)).bind fun f9h => (if f9h.length + (x.f2).length < 140737488355328 then (G k (f9h ++ (x.f2))) else (none))) else (none))) else ((a0O.f k (IntKind.u64.wrap (x.f1)) ((J5 F8 (x.f0)).f1) true).bind fun e5t => (if e3o.length + e5t.1.length < 140737488355328 then (G k (e3o ++ e5t.1)) else (none)))) else (none)) else (none))) else (none))) r := by
 have hk := b2t hm
 obtain ⟨_, hn, hb⟩ := hx
 have hko : x.f0 % 256 = x.f0 := by omega
 simp only [if_pos (show acc.length < 140737488355328 by omega), Option.bind_some, if_pos (show 0 ≤ x.f0 by omega), if_pos (show x.f0 < 8 by omega), hko]
 by_cases h2 : x.f0 ≤ 2
 ·have e : (J5 F8 x.f0).f0 = true := by
   obtain h | h : x.f0 = 1 ∨ x.f0 = 2 := by omega
   all_goals rw [h]; rfl
  simp only [e, if_true, List.length_append, List.length_cons, List.length_nil]
  refine Ev.congr (fun k => if_pos (by omega)) ?_
  refine Ev.congr (fun k => if_pos (by omega)) ?_
  have e2 : a6U x.f0 x.f1 x.f2 = [x.f0] ++ [((x.f2).length : Int) / 256, ((x.f2).length : Int) % 256] ++ x.f2 := by
   unfold a6U
   rw [if_pos h2]
   rfl
  rw [e2, ← List.append_assoc, ← List.append_assoc] at hG
  rw [show ((x.f2).length : Int) / 256 % 256 = ((x.f2).length : Int) / 256 by omega]
  exact hG
 ·have e : (J5 F8 x.f0).f0 = false := by
   obtain h | h | h | h | h : x.f0 = 3 ∨ x.f0 = 4 ∨ x.f0 = 5 ∨ x.f0 = 6 ∨ x.f0 = 7 := by omega
   all_goals rw [h]; rfl
  simp only [e, Bool.false_eq_true, if_false, List.length_append, List.length_cons, List.length_nil, b1P hn.1 (show x.f1 < 18446744073709551616 by omega)]
  have key : (if fits x.f1 (J5 F8 x.f0).f1 = true then (U2 x.f1 (J5 F8 x.f0).f1.toNat true, true) else ([], false)).1 = (a6U x.f0 x.f1 x.f2).tail := by
   have hm2 := hm
   unfold a2z at hm2
   rw [if_neg (by omega)] at hm2
   split at hm2
   ·cases hm2
   ·unfold a6U
    obtain h | h | h | h | h : x.f0 = 3 ∨ x.f0 = 4 ∨ x.f0 = 5 ∨ x.f0 = 6 ∨ x.f0 = 7 := by omega
    ·rw [h]
     simp [J5, F8, d7V]
    ·rw [h]
     simp [J5, F8, d7V]
    ·rw [h]
     simp [J5, F8, c8r hn.2]
    ·rw [h] at hm2 ⊢
     simp at hm2
     simp [J5, F8, d7U, hm2, f0w hn.1 hm2]
    ·rw [h]
     simp [J5, F8, c8r hn.2]
  refine Ev.bind (c6l x.f1 _ true hn.1 (by omega)) ?_
  rw [key]
  have hl5 := b9G x.f0 x.f1 x.f2
  have e3 : a6U x.f0 x.f1 x.f2 = x.f0 :: (a6U x.f0 x.f1 x.f2).tail := rfl
  have e4 : (a6U x.f0 x.f1 x.f2).tail.length + 1 = (a6U x.f0 x.f1 x.f2).length := by
   conv => rhs; rw [e3]
   rfl
  refine Ev.congr (fun k => if_pos (by omega)) ?_
  rw [e3] at hG
  simpa [List.append_assoc] using hG
theorem d2R (l : List Note) (hl : l.length < 140737488355328) (hx : ∀ x ∈ l, b0Y x) : ∀ (d i : Nat) (acc : List Int), l.length - i = d → i ≤ l.length → acc.length + tot (l.drop i) < 140737488355328 →
  Ev (fun k => dump_Put.l0 k acc l (l.length : Int) (i : Int)) (b6o acc (l.drop i)) := by
 intro d
 induction d with
 | zero =>
  intro i acc hd hi ht
  refine Ev.step (f := fun _ => some (acc, 0)) (fun k => ?_) ?_
  ·rw [dump_Put.l0, if_neg (by omega)]
  ·rw [List.drop_of_length_le (by omega), b6o]
   exact Ev.now _
 | succ d ih =>
  intro i acc hd hi ht
  have hlt : i < l.length := by omega
  rw [List.drop_eq_getElem_cons hlt] at ht ⊢
  simp only [tot] at ht
  rw [b6o]
  have hok := hx l[i] (List.getElem_mem hlt)
  refine Ev.step (fun k => by rw [dump_Put.l0, if_pos (by omega), if_pos (by omega), if_pos (by omega), e3n l i hlt]) ?_
  refine Ev.bind (c8s _ _ _ hok.2.1.1 hok.2.1.2) ?_
  cases hm : a2z l[i].f0 l[i].f1 l[i].f2 with
  | false =>
   simp only [Bool.false_eq_true, if_false]
   exact Ev.now _
  | true =>
   simp only [if_true]
   by_cases hb : 65535 < l[i].f2.length
   ·rw [if_pos hb]
    simp only [if_pos (show (l[i].f2.length : Int) > 65535 by omega)]
    exact Ev.now _
   ·rw [if_neg hb]
    simp only [if_neg (show ¬ (l[i].f2.length : Int) > 65535 by omega)]
    have hl5 := b9G l[i].f0 l[i].f1 l[i].f2
    have h := ih (i + 1) (acc ++ a6U l[i].f0 l[i].f1 l[i].f2) (by omega) (by omega) (by rw [List.length_append]; omega)
    refine d7W l[i] hok hm (by omega) acc (by omega) (G := fun k a => dump_Put.l0 k a l (l.length : Int) (wrap64 ((i : Int) + 1))) ?_
    rw [w64 (by omega) (by omega)]
    exact h
theorem d2S (l : List Note) (hl : l.length < 140737488355328) (hx : ∀ x ∈ l, b0Y x) (ht : tot l < 140737488355328) : Ev (fun k => dump_Put.f k l) (b6o [] l) := by
 have := d2R l hl hx l.length 0 [] (by omega) (by omega) (by simpa using ht)
 simpa [dump_Put.f] using this
/-- How many bytes stand behind a kind, ahead of data. -/
def sz (c : Int) : Nat := if c ≤ 2 then 2 else if c ≤ 4 then 0 else if c = 6 then 1 else 4
theorem e5u (c : Int) : sz c ≤ 4 := by unfold sz; (repeat' split) <;> omega
/-- The note with which bytes begin: kind, number, data, how many bytes, the error. -/
def a0G (b : List Int) : Int × Int × List Int × Int × Int :=
 match b with
 | [] => (0, 0, [], 0, 2)
 | c :: r =>
  if c < 1 ∨ 7 < c then (0, 0, [], 0, 7)
  else if r.length < sz c then (0, 0, [], 0, 2)
  else if 2 < c then (c, a0d (r.take (sz c)), [], 1 + (sz c : Int), 0)
  else if (r.length : Int) < 2 + a0d (r.take 2) then (0, 0, [], 0, 2)
  else (c, 0, (r.drop 2).take (a0d (r.take 2)).toNat, 3 + a0d (r.take 2), 0)
theorem b9H {l : List Int} (h : Bytes l) {n : Nat} (hl : l.length ≤ n) : 0 ≤ a0d l ∧ a0d l < 256 ^ n :=
 ⟨(a6q l h).1, Int.lt_of_lt_of_le (a6q l h).2 (b0m hl)⟩
theorem word_lt {r : List Int} (h : Bytes r) : 0 ≤ a0d (r.take 2) ∧ a0d (r.take 2) < 65536 := by
 have := b9H (h.take 2) (n := 2) (by rw [List.length_take]; omega)
 rw [show (256 : Int) ^ 2 = 65536 by decide] at this
 exact this
theorem d1I {r : List Int} (h : Bytes r) (c : Int) : 0 ≤ a0d (r.take (sz c)) ∧ a0d (r.take (sz c)) < 4294967296 := by
 have := b9H (h.take (sz c)) (n := 4) (by have := e5u c; rw [List.length_take]; omega)
 rw [show (256 : Int) ^ 4 = 4294967296 by decide] at this
 exact this
/-- What a note that was read is. -/
theorem d7X {b : List Int} {kind n size : Int} {data : List Int} (hb : Bytes b) (h : a0G b = (kind, n, data, size, 0)) :
  a2z kind n data = true ∧ (0 ≤ n ∧ n < 4294967296) ∧ Bytes data ∧ data.length ≤ 65535 ∧ 1 ≤ size ∧ size ≤ b.length ∧ b = a6U kind n data ++ b.drop size.toNat := by
 cases b with
 | nil => simp [a0G] at h
 | cons c r =>
  have hr : Bytes r := fun x hx => hb x (List.mem_cons_of_mem _ hx)
  have hc := hb c (List.mem_cons_self ..)
  simp only [a0G] at h
  by_cases h1 : c < 1 ∨ 7 < c
  ·simp [h1] at h
  ·rw [if_neg h1] at h
   by_cases h2 : r.length < sz c
   ·simp [h2] at h
   ·rw [if_neg h2] at h
    by_cases h3 : 2 < c
    ·rw [if_pos h3] at h
     simp only [Prod.mk.injEq] at h
     obtain ⟨rfl, rfl, rfl, rfl, _⟩ := h
     have hq := d1I hr c
     have hd : (c :: r).drop (1 + (sz c : Int)).toNat = r.drop (sz c) := by
      rw [show (1 + (sz c : Int)).toNat = sz c + 1 by omega, List.drop_succ_cons]
     rw [hd]
     have hl : (r.take (sz c)).length = sz c := by rw [List.length_take]; omega
     refine ⟨?_, hq, Bytes.nil, by simp, by omega, by rw [List.length_cons]; omega, ?_⟩
     ·unfold a2z
      rw [if_neg (by omega), if_neg (by simp)]
      by_cases h4 : c = 3 ∨ c = 4
      ·rw [if_pos h4]
       have : sz c = 0 := by unfold sz; rw [if_neg (by omega), if_pos (by omega)]
       rw [this]
       rfl
      ·rw [if_neg h4]
       by_cases h5 : c = 5 ∨ c = 7
       ·rw [if_pos h5]
       ·rw [if_neg h5, if_pos (by omega)]
        have h6 : sz c = 1 := by unfold sz; rw [if_neg (by omega), if_neg (by omega), if_pos (by omega)]
        have := b9H (hr.take (sz c)) (n := 1) (by rw [hl]; omega)
        exact decide_eq_true (by omega)
     ·unfold a6U
      rw [if_neg (by omega)]
      have hput : ∀ s, s = sz c → U2 (a0d (r.take (sz c))) s true = r.take (sz c) := by
       intro s hs
       have := c0N (r.take (sz c)) true (hr.take _)
       rw [hl] at this
       rw [hs]
       exact this
      by_cases h6 : c = 6
      ·have hs : sz c = 1 := by unfold sz; rw [if_neg (by omega), if_neg (by omega), if_pos h6]
       rw [if_pos h6]
       have := hput 1 hs.symm
       rw [hs] at this hl ⊢
       match hr1 : r.take 1, hl with
       | [y], _ =>
        have hy : a0d [y] = y := by simp [a0d]
        rw [hy]
        conv => lhs; rw [← List.take_append_drop 1 r, hr1]
        rfl
      ·rw [if_neg h6]
       by_cases h5 : c = 5 ∨ c = 7
       ·have hs : sz c = 4 := by unfold sz; rw [if_neg (by omega), if_neg (by omega), if_neg (by omega)]
        rw [if_pos h5, hput 4 hs.symm, List.cons_append, List.take_append_drop]
       ·have hs : sz c = 0 := by unfold sz; rw [if_neg (by omega), if_pos (by omega)]
        rw [if_neg h5, hs]
        rfl
    ·rw [if_neg h3] at h
     by_cases h4 : (r.length : Int) < 2 + a0d (r.take 2)
     ·simp [h4] at h
     ·rw [if_neg h4] at h
      simp only [Prod.mk.injEq] at h
      obtain ⟨rfl, rfl, rfl, rfl, _⟩ := h
      have hw := word_lt hr
      have hs : sz c = 2 := by unfold sz; rw [if_pos (by omega)]
      rw [hs] at h2
      have hl2 : (r.take 2).length = 2 := by rw [List.length_take]; omega
      have hld : ((r.drop 2).take (a0d (r.take 2)).toNat).length = (a0d (r.take 2)).toNat := by
       rw [List.length_take, List.length_drop]
       omega
      refine ⟨?_, by omega, (hr.drop 2).take _, by rw [hld]; omega, by omega, by rw [List.length_cons]; omega, ?_⟩
      ·unfold a2z
       rw [if_pos (by omega)]
       rfl
      ·unfold a6U
       rw [if_pos (by omega), hld]
       match hr2 : r.take 2, hl2 with
       | [y, z], _ =>
        have hb2 : Bytes [y, z] := by rw [← hr2]; exact hr.take 2
        have hy := hb2 y (by simp)
        have hz := hb2 z (by simp)
        have hv : a0d [y, z] = y * 256 + z := by simp [a0d]
        rw [hr2, hv] at hw
        rw [hv]
        have e1 : (((y * 256 + z).toNat : Nat) : Int) / 256 = y := by omega
        have e2 : (((y * 256 + z).toNat : Nat) : Int) % 256 = z := by omega
        rw [e1, e2]
        have hd : (c :: r).drop (3 + (y * 256 + z)).toNat = (r.drop 2).drop (y * 256 + z).toNat := by
         rw [show (3 + (y * 256 + z)).toNat = (2 + (y * 256 + z).toNat) + 1 by omega, List.drop_succ_cons, List.drop_drop]
        rw [hd]
        conv => lhs; rw [← List.take_append_drop 2 r, hr2]
        simp only [List.cons_append, List.nil_append, List.take_append_drop]
/-- A note, put, and whatever behind, reads as that note. -/
theorem d2T (x : Note) (hx : b0Y x) (hm : a2z x.f0 x.f1 x.f2 = true) (hl : x.f2.length ≤ 65535) (r : List Int) : a0G (a6U x.f0 x.f1 x.f2 ++ r) = (x.f0, x.f1, x.f2, ((a6U x.f0 x.f1 x.f2).length : Int), 0) := by
 have hk := b2t hm
 obtain ⟨_, hn, hb⟩ := hx
 by_cases h2 : x.f0 ≤ 2
 ·have hn0 : x.f1 = 0 := by
   unfold a2z at hm
   rw [if_pos (by omega)] at hm
   simpa using hm
  have e : a6U x.f0 x.f1 x.f2 = x.f0 :: ((x.f2.length : Int) / 256) :: ((x.f2.length : Int) % 256) :: x.f2 := by
   unfold a6U
   rw [if_pos h2]
  have hs : sz x.f0 = 2 := by unfold sz; rw [if_pos h2]
  have hw : a0d [((x.f2.length : Int) / 256), ((x.f2.length : Int) % 256)] = x.f2.length := by
   simp [a0d]
   omega
  rw [e]
  simp only [List.cons_append, a0G, hs]
  have ht : ((x.f2.length : Int) / 256 :: (x.f2.length : Int) % 256 :: (x.f2 ++ r)).take 2 = [((x.f2.length : Int) / 256), ((x.f2.length : Int) % 256)] := rfl
  rw [if_neg (by omega), if_neg (by simp), if_neg (by omega), ht, hw, if_neg (by simp; omega), hn0]
  simp only [Int.toNat_natCast, List.drop_succ_cons, List.drop_zero, List.take_left, List.length_cons]
  congr 4
  omega
 ·have hd : x.f2 = [] := by
   unfold a2z at hm
   rw [if_neg (by omega)] at hm
   by_cases h : 0 < x.f2.length
   ·rw [if_pos h] at hm
    cases hm
   ·exact List.eq_nil_of_length_eq_zero (by omega)
  have key : ∃ q, a6U x.f0 x.f1 x.f2 = x.f0 :: q ∧ q.length = sz x.f0 ∧ a0d q = x.f1 := by
   have hm2 := hm
   unfold a2z at hm2
   rw [if_neg (by omega), hd, if_neg (by simp)] at hm2
   unfold a6U
   rw [if_neg h2]
   have hg4 : a0d (U2 x.f1 4 true) = x.f1 := b5P x.f1 4 true hn.1 (by rw [show (256 : Int) ^ 4 = 4294967296 by decide]; exact hn.2)
   obtain h | h | h | h | h : x.f0 = 3 ∨ x.f0 = 4 ∨ x.f0 = 5 ∨ x.f0 = 6 ∨ x.f0 = 7 := by omega
   ·rw [h] at hm2 ⊢
    simp at hm2
    exact ⟨[], rfl, rfl, by rw [hm2]; rfl⟩
   ·rw [h] at hm2 ⊢
    simp at hm2
    exact ⟨[], rfl, rfl, by rw [hm2]; rfl⟩
   ·rw [h]
    exact ⟨_, rfl, by simp [H9, sz], by simpa using hg4⟩
   ·rw [h]
    exact ⟨[x.f1], rfl, rfl, by simp [a0d]⟩
   ·rw [h]
    exact ⟨_, rfl, by simp [H9, sz], by simpa using hg4⟩
  obtain ⟨q, e, hq, hv⟩ := key
  rw [e]
  simp only [List.cons_append, a0G]
  rw [if_neg (by omega), if_neg (by rw [List.length_append]; omega), if_pos (by omega), ← hq, List.take_left, hv, hd]
  simp only [List.length_cons]
  congr 4
  omega
/-- All notes: what was read, the fault. -/
def a9R : Nat → List Int → Int → List Note × Int × Int
 | 0, _, _ => ([], 0, 0)
 | f + 1, b, at_ =>
  if b = [] then ([], 0, 0)
  else if (a0G b).2.2.2.2 = 0 then (⟨(a0G b).1, (a0G b).2.1, (a0G b).2.2.1⟩ :: (a9R f (b.drop (a0G b).2.2.2.1.toNat) (at_ + (a0G b).2.2.2.1)).1, (a9R f (b.drop (a0G b).2.2.2.1.toNat) (at_ + (a0G b).2.2.2.1)).2)
  else ([], at_, (a0G b).2.2.2.2)
def c3O (b : List Int) : List Note × Int × Int := a9R b.length b 0
/-- Notes that are right, put, read as they were. -/
theorem c3P (l : List Note) : ∀ (f : Nat) (at_ : Int), (∀ x ∈ l, b0Y x) → b08 l = true → (a5R l).length ≤ f → a9R f (a5R l) at_ = (l, 0, 0) := by
 induction l with
 | nil =>
  intro f at_ _ _ _
  cases f <;> rfl
 | cons x l ih =>
  intro f at_ hx ha hf
  simp only [b08, List.all_cons, Bool.and_eq_true, decide_eq_true_eq] at ha
  have hby : a5R (x :: l) = a6U x.f0 x.f1 x.f2 ++ a5R l := rfl
  rw [hby] at hf ⊢
  rw [List.length_append] at hf
  have hpos : 0 < (a6U x.f0 x.f1 x.f2).length := by unfold a6U; simp
  cases f with
  | zero => omega
  | succ f =>
   rw [a9R, if_neg (fun h => by have := congrArg List.length h; rw [List.length_append, List.length_nil] at this; omega), d2T x (hx x (List.mem_cons_self ..)) ha.1.1 ha.1.2]
   simp only [if_true, Int.toNat_natCast, List.drop_left]
   rw [ih f _ (fun y hy => hx y (List.mem_cons_of_mem _ hy)) (by simpa only [b08, List.all_eq_true, Bool.and_eq_true, decide_eq_true_eq] using ha.2) (by omega)]
theorem c6t (l : List Note) (hx : ∀ x ∈ l, b0Y x) (ha : b08 l = true) : c3O (a5R l) = (l, 0, 0) := c3P l _ 0 hx ha (Nat.le_refl _)
theorem kinds' {k : Int} (h : ¬ (k < 1 ∨ 7 < k)) : k = 1 ∨ k = 2 ∨ k = 3 ∨ k = 4 ∨ k = 5 ∨ k = 6 ∨ k = 7 := by omega
theorem e3p {c : Int} (h : ¬ (c < 1 ∨ 7 < c)) : (J5 F8 c).f0 = decide (c ≤ 2) := by
 rcases kinds' h with rfl | rfl | rfl | rfl | rfl | rfl | rfl <;> rfl
theorem e3q {c : Int} (h : ¬ (c < 1 ∨ 7 < c)) : (if c ≤ 2 then (2 : Int) else (J5 F8 c).f1) = sz c := by
 rcases kinds' h with rfl | rfl | rfl | rfl | rfl | rfl | rfl <;> rfl
theorem d7Y (c : Int) (r : List Int) (hb : Bytes (c :: r)) (hl : (c :: r).length < 140737488355328) (h1 : ¬ (c < 1 ∨ 7 < c)) (f1 : Int) :
  Ev (fun k => dump_Next.j1 k (c :: r) 1 (sz c : Int) c 0 (decide (c ≤ 2)) f1) (a0G (c :: r)) := by
 have hr : Bytes r := fun x hx => hb x (List.mem_cons_of_mem _ hx)
 have hs := e5u c
 rw [List.length_cons] at hl
 refine Ev.step (fun k => by rw [dump_Next.j1, b9B _ _ _ (by rw [List.length_cons]; omega) (by omega)]) ?_
 simp only [Option.bind_some, a0G]
 rw [if_neg h1]
 by_cases h2 : r.length < sz c
 ·rw [if_pos h2]
  have : b6L (c :: r) 1 (sz c) = ([], false) := by
   unfold b6L
   rw [if_neg (by rw [List.length_cons]; omega)]
  simp only [this, Bool.false_eq_true, if_false]
  exact Ev.now _
 ·rw [if_neg h2]
  have hc : b6L (c :: r) 1 (sz c) = (r.take (sz c), true) := by
   unfold b6L
   rw [if_pos (by rw [List.length_cons]; omega)]
   congr 1
  simp only [hc, if_true]
  have hlt : (r.take (sz c)).length = sz c := by rw [List.length_take]; omega
  refine Ev.bind (c6m (r.take (sz c)) (hr.take _) true) ?_
  have hg : (if 1 ≤ (r.take (sz c)).length ∧ (r.take (sz c)).length ≤ 8 then (a81 (r.take (sz c)) true, true) else (0, false)).1 = a0d (r.take (sz c)) := by
   by_cases h : 1 ≤ (r.take (sz c)).length ∧ (r.take (sz c)).length ≤ 8
   ·rw [if_pos h]
    rfl
   ·rw [if_neg h]
    have : r.take (sz c) = [] := List.eq_nil_of_length_eq_zero (by omega)
    rw [this]
    rfl
  rw [hg]
  have hq := d1I hr c
  rw [w64 (x := (1 : Int) + (sz c : Int)) (by omega) (by omega)]
  by_cases h3 : 2 < c
  ·rw [if_pos h3]
   simp only [show decide (c ≤ 2) = false from decide_eq_false (by omega), Bool.false_eq_true, if_false]
   rw [Int.emod_eq_of_lt hq.1 hq.2]
   exact Ev.now _
  ·rw [if_neg h3]
   simp only [show decide (c ≤ 2) = true from decide_eq_true (by omega), if_true]
   have hs2 : sz c = 2 := by unfold sz; rw [if_pos (by omega)]
   rw [hs2] at hq hlt ⊢
   have hw := word_lt hr
   rw [w64 (x := a0d (r.take 2)) (by omega) (by omega)]
   rw [b9B _ _ _ (by rw [List.length_cons]; omega) (by omega)]
   simp only [Option.bind_some]
   by_cases h4 : (r.length : Int) < 2 + a0d (r.take 2)
   ·rw [if_pos h4]
    have : b6L (c :: r) (1 + ((2 : Nat) : Int)) (a0d (r.take 2)) = ([], false) := by
     unfold b6L
     rw [if_neg (by rw [List.length_cons]; omega)]
    simp only [this, Bool.false_eq_true, if_false]
    exact Ev.now _
   ·rw [if_neg h4]
    have : b6L (c :: r) (1 + ((2 : Nat) : Int)) (a0d (r.take 2)) = ((r.drop 2).take (a0d (r.take 2)).toNat, true) := by
     unfold b6L
     rw [if_pos (by rw [List.length_cons]; omega)]
     rfl
    simp only [this, if_true]
    rw [w64 (by omega) (by omega)]
    rw [show (1 : Int) + ((2 : Nat) : Int) + a0d (r.take 2) = 3 + a0d (r.take 2) by omega]
    exact Ev.now _
theorem c8t (b : List Int) (hb : Bytes b) (hl : b.length < 140737488355328) : Ev (fun k => dump_Next.f k b) (a0G b) := by
 cases b with
 | nil =>
  unfold dump_Next.f a0G
  exact Ev.now _
 | cons c r =>
  have hc := hb c (List.mem_cons_self ..)
  have hrd : rd (c :: r) 0 = c := rfl
  unfold dump_Next.f
  rw [List.length_cons] at hl
  simp only [if_neg (show ¬ (((c :: r).length : Int) = 0) by rw [List.length_cons]; omega), if_pos (show 0 < ((c :: r).length : Int) by rw [List.length_cons]; omega), hrd, w64 (show -9223372036854775808 ≤ c by omega) (show c ≤ 9223372036854775807 by omega)]
  by_cases h1 : c < 1 ∨ 7 < c
  ·have e : a0G (c :: r) = (0, 0, [], 0, 7) := by
    simp only [a0G]
    rw [if_pos h1]
   rw [e]
   by_cases h2 : c < 1
   ·simp only [if_pos h2]
    exact Ev.step (f := fun _ => some (0, 0, [], 0, 7)) (fun k => by rw [dump_Next.j0, if_pos rfl]) (Ev.now _)
   ·simp only [if_neg h2, show decide (c > 7) = true from decide_eq_true (by omega)]
    exact Ev.step (f := fun _ => some (0, 0, [], 0, 7)) (fun k => by rw [dump_Next.j0, if_pos rfl]) (Ev.now _)
  ·simp only [if_neg (show ¬ c < 1 by omega), show decide (c > 7) = false from decide_eq_false (by omega)]
   refine Ev.step (fun k => by rw [dump_Next.j0, if_neg (by decide), if_pos (by omega), if_pos (by omega), e3p h1]) ?_
   have hj := d7Y c r hb (by rw [List.length_cons]; omega) h1 (J5 F8 c).f1
   by_cases h2 : c ≤ 2
   ·simp only [h2, decide_true, if_true]
    have hs2 : sz c = 2 := by unfold sz; rw [if_pos h2]
    rw [hs2] at hj
    simp only [h2, decide_true] at hj
    exact hj
   ·simp only [h2, decide_false, Bool.false_eq_true, if_false]
    have hf := e3q h1
    rw [if_neg h2] at hf
    simp only [h2, decide_false, ← hf] at hj
    exact hj
theorem c8u {b : List Int} (hb : Bytes b) (h : (a0G b).2.2.2.2 = 0) : 1 ≤ (a0G b).2.2.2.1 ∧ (a0G b).2.2.2.1 ≤ b.length := by
 obtain ⟨kind, n, data, size, hx⟩ : ∃ kind n data size, a0G b = (kind, n, data, size, 0) := ⟨_, _, _, _, by rw [← h]⟩
 obtain ⟨_, _, _, _, h5, h6, _⟩ := d7X hb hx
 rw [hx]
 exact ⟨h5, h6⟩
theorem d7Z (b : List Int) (at_ n : Int) (h0 : 0 ≤ at_) (hn : 0 ≤ n) : (b.drop at_.toNat).drop n.toNat = b.drop (at_ + n).toNat := by
 rw [List.drop_drop]
 congr 1
 omega
theorem c8v (b : List Int) (hb : Bytes b) (hl : b.length < 3518437208883) (f : Nat) : ∀ (at_ : Int) (acc : List Note), 0 ≤ at_ → at_ ≤ b.length → (b.length : Int) - at_ ≤ f → (acc.length : Int) ≤ at_ →
  Ev (fun k => a1u.l0 k b acc at_) (acc ++ (a9R f (b.drop at_.toNat) at_).1, (a9R f (b.drop at_.toNat) at_).2) := by
 induction f with
 | zero =>
  intro at_ acc h0 h1 hf ha
  refine Ev.step (f := fun _ => some (acc, 0, 0)) (fun k => ?_) ?_
  ·rw [a1u.l0, if_neg (by omega)]
  ·simp only [a9R, List.append_nil]
   exact Ev.now _
 | succ f ih =>
  intro at_ acc h0 h1 hf ha
  by_cases hlt : at_ < (b.length : Int)
  ·have hne : b.drop at_.toNat ≠ [] := by
    intro h
    have := congrArg List.length h
    rw [List.length_drop, List.length_nil] at this
    omega
   rw [a9R, if_neg hne]
   refine Ev.step (fun k => by rw [a1u.l0, if_pos hlt, if_pos h0, if_pos h1]) ?_
   refine Ev.bind (c8t (b.drop at_.toNat) (hb.drop _) (by rw [List.length_drop]; omega)) ?_
   by_cases he : (a0G (b.drop at_.toNat)).2.2.2.2 = 0
   ·simp only [if_pos he]
    obtain ⟨p1, p2⟩ := c8u (hb.drop _) he
    rw [List.length_drop] at p2
    refine Ev.congr (fun k => if_pos (by omega)) ?_
    rw [w64 (by omega) (by omega)]
    have h := ih (at_ + (a0G (b.drop at_.toNat)).2.2.2.1) (acc ++ [⟨(a0G (b.drop at_.toNat)).1, (a0G (b.drop at_.toNat)).2.1, (a0G (b.drop at_.toNat)).2.2.1⟩]) (by omega) (by omega) (by omega) (by rw [List.length_append, List.length_cons, List.length_nil]; omega)
    rw [List.append_assoc] at h
    rw [d7Z b at_ _ h0 (by omega)]
    exact h
   ·simp only [if_neg he, List.append_nil]
    exact Ev.now _
  ·have hnil : b.drop at_.toNat = [] := List.drop_of_length_le (by omega)
   rw [a9R, if_pos hnil]
   refine Ev.step (f := fun _ => some (acc, 0, 0)) (fun k => ?_) ?_
   ·rw [a1u.l0, if_neg hlt]
   ·simp only [List.append_nil]
    exact Ev.now _
theorem c8w (b : List Int) (hb : Bytes b) (hl : b.length < 3518437208883) : Ev (fun k => a1u.f k b) (c3O b) := by
 have := c8v b hb hl b.length 0 [] (by omega) (by omega) (by omega) (by simp)
 simpa [a1u.f, c3O] using this
theorem d2U {p : Int} (h : a6h p = true) : 1 ≤ p ∧ p ≤ 65535 ∧ p % 2 = 1 ∧ p / 256 % 2 = 0 ∧ p ≠ 255 := by
 unfold a6h at h
 exact of_decide_eq_true h
theorem c6u (p : Int) (m : a6h p = true) (more : List Int) : a8w (a7F p true false ++ more) = (p, ((a7F p true false).length : Int), 0) := by
 have hr := d2U m
 have h2 : ∀ (r : List Int) (at_ : Int), a9A (p / 256 % 256 :: p % 256 :: r) at_ = (p, at_ + 2, 0) := by
  intro r at_
  unfold a9A
  dsimp only
  rw [if_neg (by omega), if_neg (by omega), show 256 * (p / 256 % 256) + p % 256 = p by omega]
 unfold a7F
 simp only [Bool.false_eq_true, false_and, if_false, if_true, List.nil_append, List.cons_append, List.length_cons, List.length_nil]
 unfold a8w
 simp only [if_true, h2 more 2]
 rfl
theorem d2V (p : Int) : Bytes (a7F p true false) := by
 unfold a7F
 simp only [Bool.false_eq_true, false_and, if_false, if_true]
 exact (Bytes.cons (by omega) (Bytes.cons (by omega) Bytes.nil)).append (Bytes.cons (by omega) (Bytes.cons (by omega) Bytes.nil))
theorem b9I (p : Int) : (a7F p true false).length = 4 := by
 unfold a7F
 simp
theorem b42 (a : List Int) (z : Nat) (big : Bool) : Bytes (a3z a z big) := by
 unfold a3z
 induction a with
 | nil => exact Bytes.nil
 | cons x a ih => rw [List.map_cons, List.flatten_cons]; exact Bytes.append (b3D _ _ _) ih
theorem b5T (big nano : Bool) (s k0 : Int) : Bytes (a1k big nano s k0) := by
 unfold a1k; exact (b42 _ _ _).append ((b42 _ _ _).append (b42 _ _ _))
theorem b9J (big : Bool) (l : List S51) (hb : ∀ r ∈ l, Bytes r.f3) : Bytes (l.map (a3T big)).flatten := by
 induction l with
 | nil => exact Bytes.nil
 | cons x l ih =>
  rw [List.map_cons, List.flatten_cons]
  refine Bytes.append ?_ (ih (fun r hr => hb r (List.mem_cons_of_mem _ hr)))
  unfold a3T
  exact (b42 _ _ _).append (hb x (List.mem_cons_self ..))
theorem b9K (big : Bool) (l : List S51) : ((l.map (a3T big)).flatten).length = a9d l := by
 induction l with
 | nil => rfl
 | cons x l ih => rw [List.map_cons, List.flatten_cons, List.length_append, ih, a9D]; rfl
theorem c6v (big : Bool) (l : List S51) (h : ∀ r ∈ l, (r.f3.length : Int) ≤ 131072) (y : List Int) : b9D big y l = (y ++ (l.map (a3T big)).flatten, 0) := by
 induction l generalizing y with
 | nil => simp [b9D]
 | cons r l ih =>
  unfold b9D
  rw [if_neg (by have := h r (List.mem_cons_self ..); omega), ih (fun x hx => h x (List.mem_cons_of_mem _ hx))]
  simp
abbrev Item := S42
/-- May an item be? -/
def a4X (x : Item) : Bool := (decide (x.f0 = 1 ∨ x.f0 = 2) && a6h x.f1) && decide (x.f2.length ≤ 65531)
theorem b2u (x : Item) : a2B.f x.f0 x.f1 x.f2 = some (a4X x) := by
 have hd : (decide ((x.f2.length : Int) ≤ 65531)) = decide (x.f2.length ≤ 65531) := by
  rw [Bool.eq_iff_iff, decide_eq_true_iff, decide_eq_true_iff]
  omega
 unfold a2B.f a4X
 simp only [b0T, Option.bind_some]
 by_cases h1 : x.f0 = 1
 ·cases hm : a6h x.f1 <;> simp [h1, hd]
 ·by_cases h2 : x.f0 = 2
  ·cases hm : a6h x.f1 <;> simp [h2, hd]
  ·simp [h1, h2]
theorem a5F {x : Item} (h : a4X x = true) : (x.f0 = 1 ∨ x.f0 = 2) ∧ a6h x.f1 = true ∧ x.f2.length ≤ 65531 := by
 unfold a4X at h
 simp only [Bool.and_eq_true, decide_eq_true_eq] at h
 exact ⟨h.1.1, h.1.2, h.2⟩
theorem b3E : ∀ (l : List Item) (j : Nat), (∀ x ∈ l, a4X x = true) → G8.go l j = some (-1)
 | [], _, _ => rfl
 | x :: m, j, h => by
  rw [G8.go, b2u, h x (by simp), Option.bind_some, if_pos rfl]
  exact b3E m (j + 1) fun y hy => h y (by simp [hy])
theorem c0U : ∀ (l : List Item) (j : Nat), (∃ x ∈ l, a4X x = false) → ∃ i : Int, 0 ≤ i ∧ G8.go l j = some i
 | [], _, h => by obtain ⟨x, hx, _⟩ := h; cases hx
 | x :: m, j, h => by
  cases hx : a4X x with
  | true =>
   have h2 : ∃ y ∈ m, a4X y = false := by
    obtain ⟨y, hy, hb⟩ := h
    rcases List.mem_cons.1 hy with rfl | hy
    ·rw [hx] at hb; cases hb
    ·exact ⟨y, hy, hb⟩
   obtain ⟨i, h0, hi⟩ := c0U m (j + 1) h2
   refine ⟨i, h0, ?_⟩
   rw [G8.go, b2u, hx, Option.bind_some, if_pos rfl]
   exact hi
  | false =>
   refine ⟨(j : Int), by omega, ?_⟩
   rw [G8.go, b2u, hx, Option.bind_some, if_neg (by decide)]
/-- An item's frame. -/
def a0l (x : Item) : List Int := a7F x.f1 true false ++ x.f2
theorem a4u (x : Item) : (a0l x).length = 4 + x.f2.length := by
 unfold a0l
 rw [List.length_append, b9I]
theorem a4v {x : Item} (hb : Bytes x.f2) : Bytes (a0l x) := (d2V x.f1).append hb
theorem b9L (x : Item) (h : a4X x = true) : a1E.f x.f0 x.f1 x.f2 = some (a0l x) := by
 obtain ⟨_, hm, hl⟩ := a5F h
 unfold a1E.f a0l
 rw [d2t, hm, Option.bind_some]
 simp only [if_true]
 rw [if_pos (by rw [b9I]; omega)]
theorem c8x (x : Item) (h : a4X x = true) : b6h (a0l x) = (x.f1, x.f2, 0) := by
 obtain ⟨_, hm, hl⟩ := a5F h
 unfold b6h a0l
 rw [c6u x.f1 hm x.f2]
 simp
/-- What an item's body gives, behind others. -/
def b09 (out : List Item) (dir : Int) (b : List Int) : List Item := if (b6h b).2.2 = 0 then out ++ [⟨dir, (b6h b).1, (b6h b).2.1⟩] else out
theorem b2v (out : List Item) (dir : Int) (b : List Int) (hb : Bytes b) (hl : b.length < 140737488355328) (ho : out.length < 3518437208883) : Ev (fun k => a0r.f k out dir b) (b09 out dir b) := by
 unfold a0r.f b09
 refine Ev.bind (d2u b hb hl) ?_
 by_cases c : (b6h b).2.2 = 0
 ·simp only [c, if_true, ho]
  exact Ev.now _
 ·simp only [c, if_false]
  exact Ev.now _
theorem a7W (out : List Item) (dir : Int) (x : Item) (h : a4X x = true) : b09 out dir (a0l x) = out ++ [⟨dir, x.f1, x.f2⟩] := by
 unfold b09
 rw [c8x x h]
 simp
theorem c3Q (l : List Item) (i : Nat) (h : i < l.length) : F7 l (i : Int) = l[i] := by
 unfold F7
 rw [Int.toNat_natCast, List.getD_eq_getElem?_getD, List.getElem?_eq_getElem h]
 rfl
def recv (i : Nat) (x : Item) : S51 := ⟨(i : Int), 0, ((a0l x).length + 1 : Nat), (x.f0 - 1) :: a0l x⟩
def a0U : Nat → List Item → List S51
 | _, [] => []
 | i, x :: t => recv i x :: a0U (i + 1) t
theorem b0S : ∀ (l : List Item) (i : Nat), (a0U i l).length = l.length
 | [], _ => rfl
 | x :: t, i => by rw [a0U, List.length_cons, b0S t, List.length_cons]
theorem b5M : ∀ (l : List Item) (i : Nat) (r : S51), r ∈ a0U i l → ∃ j x, x ∈ l ∧ r = recv j x ∧ j < i + l.length
 | [], i, r, h => by cases h
 | x :: t, i, r, h => by
  rw [a0U] at h
  rcases List.mem_cons.1 h with rfl | h
  ·exact ⟨i, x, by simp, rfl, by simp⟩
  ·obtain ⟨j, y, hy, e, hj⟩ := b5M t (i + 1) r h
   exact ⟨j, y, by simp [hy], e, by rw [List.length_cons]; omega⟩
theorem a8Z : ∀ (l : List Item) (i : Nat), (∀ x ∈ l, a4X x = true) → a9d (a0U i l) ≤ l.length * 65552
 | [], _, _ => Nat.le_refl _
 | x :: t, i, h => by
  have h1 := (a5F (h x (by simp))).2.2
  have h2 := a4u x
  have h3 := a8Z t (i + 1) fun y hy => h y (by simp [hy])
  have h4 : (recv i x).f3.length = (a0l x).length + 1 := rfl
  rw [a0U, a9d, List.length_cons]
  omega
theorem e3r (l : List Item) (hn : l.length ≤ 60) (hm : ∀ x ∈ l, a4X x = true) : ∀ (d i : Nat) (acc : List S51), l.length - i = d → i ≤ l.length → acc.length = i → ∀ {r : List Int × Int}, Ev (fun k => pcap_Put.f k false false 65535 204 (acc ++ a0U i (l.drop i))) r →
  Ev (fun k => capture_records_write.l0 k acc l (l.length : Int) (i : Int)) r := by
 intro d
 induction d with
 | zero =>
  intro i acc hd hi ha r hr
  obtain rfl : i = l.length := by omega
  rw [List.drop_length, a0U, List.append_nil] at hr
  refine Ev.step (fun k => by rw [capture_records_write.l0, if_neg (by omega)]) ?_
  obtain ⟨r1, r2⟩ := r
  exact Ev.bind hr (Ev.now _)
 | succ d ih =>
  intro i acc hd hi ha r hr
  have hlt : i < l.length := by omega
  have hmx := hm l[i] (List.getElem_mem hlt)
  have h1 := a5F hmx
  have h2 := a4u l[i]
  have e2 : wrap64 ((i : Int) + 1) = ((i + 1 : Nat) : Int) := w64 (by omega) (by omega)
  have e3 : wrap64 (l[i].f0 - 1) % 256 = l[i].f0 - 1 := by rw [w64 (by omega) (by omega)]; omega
  have e4 : (⟨(i : Int) % 4294967296, 0, ((([l[i].f0 - 1] ++ a0l l[i] : List Int).length : Int)) % 4294967296, [l[i].f0 - 1] ++ a0l l[i]⟩ : S51) = recv i l[i] := by
   unfold recv
   rw [List.singleton_append, List.length_cons, Int.emod_eq_of_lt (by omega) (by omega), Int.emod_eq_of_lt (by omega) (by omega)]
  rw [List.drop_eq_getElem_cons hlt, a0U] at hr
  have next := ih (i + 1) (acc ++ [recv i l[i]]) (by omega) (by omega) (by rw [List.length_append, List.length_singleton]; omega) (r := r) (by rw [List.append_assoc, List.singleton_append]; exact hr)
  have g4 : ([l[i].f0 - 1] : List Int).length + (a0l l[i]).length < 140737488355328 := by rw [List.length_singleton]; omega
  refine Ev.step (fun k => ?_) next
  rw [capture_records_write.l0, if_pos (by omega), if_pos (by omega), if_pos (by omega), c3Q l i hlt, e3, Option.bind_some, b9L _ hmx, Option.bind_some, if_pos g4, Option.bind_some, if_pos (by omega), e4, e2]
theorem c0V (dir : Int) (i : Nat) (x : Item) (h : a4X x = true) : capture_records_read.of dir 204 (recv i x).f3 = (x.f0, a0l x) := by
 have h1 := a5F h
 unfold capture_records_read.of
 rw [if_pos ⟨rfl, by show 0 < (a0l x).length + 1; omega⟩]
 show ((if x.f0 - 1 = 0 then (1 : Int) else 2), a0l x) = _
 rcases h1.1 with e | e
 ·rw [e, if_pos (by decide)]
 ·rw [e, if_neg (by decide)]
theorem b9M (dir : Int) : ∀ (l : List Item) (i : Nat) (out : List Item), (∀ x ∈ l, a4X x = true ∧ Bytes x.f2) → out.length + l.length ≤ 1000 → Ev (fun k => capture_records_read.go k dir 204 (a0U i l) out) (out ++ l)
 | [], i, out, _, _ => by rw [List.append_nil]; exact Ev.now _
 | x :: t, i, out, h, hn => by
  obtain ⟨hm, hb⟩ := h x (by simp)
  have h1 := a5F hm
  have h2 := a4u x
  rw [List.length_cons] at hn
  refine Ev.congr (f := fun k => (a0r.f k out x.f0 (a0l x)).bind fun o => capture_records_read.go k dir 204 (a0U (i + 1) t) o) (fun k => ?_) ?_
  ·rw [a0U, capture_records_read.go, c0V dir i x hm]
  ·refine Ev.bind (b2v out x.f0 (a0l x) (a4v hb) (by omega) (by omega)) ?_
   rw [a7W out x.f0 x hm]
   have := b9M dir t (i + 1) (out ++ [x]) (fun y hy => h y (by simp [hy])) (by rw [List.length_append, List.length_singleton]; omega)
   rw [List.append_assoc, List.singleton_append] at this
   exact this
/-- The bytes of a capture of records. -/
def a0B (l : List Item) : List Int := a1k false false 65535 204 ++ ((a0U 0 l).map (a3T false)).flatten
theorem b0R (l : List Item) (hn : l.length ≤ 60) (h : ∀ x ∈ l, a4X x = true ∧ Bytes x.f2) : ∀ r ∈ a0U 0 l, Fine r ∧ Bytes r.f3 := by
 intro r hr
 obtain ⟨j, x, hx, rfl, hj⟩ := b5M l 0 r hr
 obtain ⟨hm, hb⟩ := h x hx
 have h1 := a5F hm
 have h2 := a4u x
 refine ⟨⟨⟨⟨by show (0 : Int) ≤ (j : Int); omega, by show (j : Int) < _; omega⟩, ⟨by show (0 : Int) ≤ 0; omega, by show (0 : Int) < _; omega⟩, ⟨by show (0 : Int) ≤ (((a0l x).length + 1 : Nat) : Int); omega, by show (((a0l x).length + 1 : Nat) : Int) < _; omega⟩⟩, ?_⟩, ?_⟩
 ·show (((a0l x).length + 1 : Nat) : Int) ≤ _
  omega
 ·exact Bytes.cons (by omega) (a4v hb)
theorem c6w (l : List Item) (hn : l.length ≤ 60) (h : ∀ x ∈ l, a4X x = true ∧ Bytes x.f2) : Ev (fun k => capture_records_write.f k 0 0 l) (a0B l, 0) := by
 have hf := b0R l hn h
 have hc := a8Z l 0 fun x hx => (h x hx).1
 have hl := b0S l 0
 have hp := c6o false false 65535 204 (a0U 0 l) (by omega) (fun r hr => (hf r hr).1.1) ⟨by omega, by omega⟩ ⟨by omega, by omega⟩ (by omega)
 rw [c6v false (a0U 0 l) (fun r hr => (hf r hr).1.2)] at hp
 unfold capture_records_write.f
 exact e3r l hn (fun x hx => (h x hx).1) l.length 0 [] rfl (Nat.zero_le _) rfl hp
theorem c3R (dir : Int) (l : List Item) (hn : l.length ≤ 60) (h : ∀ x ∈ l, a4X x = true ∧ Bytes x.f2) : Ev (fun k => capture_records_read.f k (a0B l) dir) (l, 0, 0) := by
 have hf := b0R l hn h
 have hc := a8Z l 0 fun x hx => (h x hx).1
 have hB : Bytes (a0B l) := (b5T _ _ _ _).append (b9J false _ fun r hr => (hf r hr).2)
 have hh := a5E false false 65535 204
 have hrl := b9K false (a0U 0 l)
 have hdrop : (a0B l).drop 24 = ((a0U 0 l).map (a3T false)).flatten := List.drop_left' hh
 have hlen : (a0B l).length = 24 + a9d (a0U 0 l) := by unfold a0B; rw [List.length_append, hh, hrl]
 have hv2 := b1W false false 65535 204 ⟨by omega, by omega⟩ ⟨by omega, by omega⟩ ((a0U 0 l).map (a3T false)).flatten (a0B l).length (Nat.le_refl _) (by omega)
 have e : a1k false false 65535 204 ++ ((a0U 0 l).map (a3T false)).flatten = a0B l := rfl
 rw [e, List.take_length] at hv2
 have hg := b9M dir l 0 [] h (by rw [List.length_nil]; omega)
 rw [List.nil_append] at hg
 unfold capture_records_read.f
 refine Ev.bind (b6n (a0B l) hB (by omega)) ?_
 unfold b0X
 rw [hv2, if_pos rfl]
 dsimp only
 rw [a9E false (a0B l) (a0U 0 l) 24 [] ((a0B l).length + 1) (fun r hr => (hf r hr).1) hdrop (by omega) (by omega), List.nil_append]
 refine Ev.congr (fun k => if_neg (by simp)) ?_
 refine Ev.congr (fun k => if_neg (by decide)) ?_
 exact Ev.bind hg (Ev.now _)
theorem b9N (l : List Int) : ∀ c : Nat, ((List.range c).map fun j => (l.drop (j * 65535)).take 65535).flatten = l.take (c * 65535)
 | 0 => by simp
 | c + 1 => by
  rw [List.range_succ, List.map_append, List.flatten_append, b9N l c, Nat.succ_mul, List.take_add]
  simp
/-- A row's parts. -/
def a5S (l : List Int) : List (List Int) := (List.range (Chunk.count l.length)).map fun j => (l.drop (j * 65535)).take 65535
theorem c6x (l : List Int) : (a5S l).flatten = l := by
 unfold a5S
 rw [b9N, List.take_of_length_le (by unfold Chunk.count; omega)]
theorem c8y (l : List Int) : ∀ p ∈ a5S l, p.length ≤ 65535 := by
 intro p hp
 unfold a5S at hp
 obtain ⟨j, _, rfl⟩ := List.mem_map.1 hp
 rw [List.length_take]
 omega
theorem b43 {l : List Int} (hb : Bytes l) : ∀ p ∈ a5S l, Bytes p := by
 intro p hp
 unfold a5S at hp
 obtain ⟨j, _, rfl⟩ := List.mem_map.1 hp
 exact (hb.drop _).take _
def a9e (kind : Int) (p : List Int) : Note := ⟨kind, 0, p⟩
theorem d70 (kind : Int) (l : List Int) : (List.range (Chunk.count l.length)).map (capture_notes_write.note kind l) = (a5S l).map (a9e kind) := by
 unfold a5S
 rw [List.map_map]
 rfl
/-- What a part of a capture's dump holds: the stream of an item's frame. -/
def a0C (m : Int) (wide : Bool) (x : Item) : List Int := 126 :: a3v (if x.f0 = 1 then m else 0) wide (a0l x)
def a2A (m : Int) (wide : Bool) : List Item → List Note
 | [] => []
 | x :: t => (a5S (a0C m wide x)).map (a9e (if x.f0 = 1 then 2 else 1)) ++ a2A m wide t
theorem b0Z (m : Int) (wide : Bool) (x : Item) (h : a4X x = true) : (a0C m wide x).length ≤ 140010 := by
 have h1 := a5F h
 have h2 := a4u x
 have h3 := b9y (if x.f0 = 1 then m else 0) wide (a0l x) (by omega)
 unfold a0C
 rw [List.length_cons]
 omega
theorem b1X (m : Int) (wide : Bool) (x : Item) (hb : Bytes x.f2) : Bytes (a0C m wide x) := by
 unfold a0C a3v
 exact Bytes.cons ⟨by decide, by decide⟩ ((c3w (a7U (a4v hb) wide) _).append (Bytes.cons ⟨by decide, by decide⟩ Bytes.nil))
theorem e5v (m : Int) (wide : Bool) (h0 : 0 ≤ m) (h1 : m < 4294967296) : ∀ (l : List Item) (out : List Note), (∀ x ∈ l, a4X x = true ∧ Bytes x.f2) → out.length + l.length * 3 ≤ 1000 →
  Ev (fun k => capture_notes_write.go k m wide l out) (out ++ a2A m wide l)
 | [], out, _, _ => by rw [a2A, List.append_nil]; exact Ev.now _
 | x :: t, out, h, hn => by
  obtain ⟨hm, hb⟩ := h x (by simp)
  have h2 := a5F hm
  have h3 := a4u x
  have h4 := b0Z m wide x hm
  have hc : Chunk.count (a0C m wide x).length ≤ 3 := by unfold Chunk.count; omega
  rw [List.length_cons] at hn
  have hput := c8k (if x.f0 = 1 then m else 0) wide (by split <;> omega) (by split <;> omega) (a0l x) (a4v hb) (by omega)
  rw [d7M, if_neg (show ¬ ((a0l x).length : Int) < 2 by omega), if_neg (show ¬ ((a0l x).length : Int) > 65535 by omega)] at hput
  refine Ev.congr (f := fun k => (a6n.f k (a0l x) (if x.f0 = 1 then m else 0) wide).bind fun t1 => if t1.1.length ≤ 140737488355328 ∧ out.length + Chunk.count t1.1.length < 1099511627776 then capture_notes_write.go k m wide t (out ++ (List.range (Chunk.count t1.1.length)).map (capture_notes_write.note (if x.f0 = 1 then 2 else 1) t1.1)) else none) (fun k => ?_) ?_
  ·rw [capture_notes_write.go, b9L x hm, Option.bind_some]
  ·refine Ev.bind hput ?_
   have hif : (a0C m wide x).length ≤ 140737488355328 ∧ out.length + Chunk.count (a0C m wide x).length < 1099511627776 := ⟨by omega, by omega⟩
   refine Ev.congr (fun k => if_pos hif) ?_
   have e := d70 (if x.f0 = 1 then 2 else 1) (a0C m wide x)
   have next := e5v m wide h0 h1 t (out ++ (a5S (a0C m wide x)).map (a9e (if x.f0 = 1 then 2 else 1))) (fun y hy => h y (by simp [hy])) (by rw [List.length_append, List.length_map]; unfold a5S; rw [List.length_map, List.length_range]; omega)
   rw [a2A, ← List.append_assoc]
   rw [← e] at next ⊢
   exact next
theorem b5U (m : Int) (wide : Bool) : ∀ (l : List Item), (∀ x ∈ l, a4X x = true ∧ Bytes x.f2) → (∀ y ∈ a2A m wide l, b0Y y) ∧ b08 (a2A m wide l) = true ∧ tot (a2A m wide l) ≤ l.length * 200000 ∧ (a2A m wide l).length ≤ l.length * 3
 | [], _ => ⟨(fun y h => by cases (show y ∈ ([] : List Note) from h)), rfl, Nat.le_refl _, Nat.le_refl _⟩
 | x :: t, h => by
  obtain ⟨hm, hb⟩ := h x (by simp)
  have h2 := a5F hm
  have h4 := b0Z m wide x hm
  have hc : Chunk.count (a0C m wide x).length ≤ 3 := by unfold Chunk.count; omega
  obtain ⟨i1, i2, i3, i4⟩ := b5U m wide t fun y hy => h y (by simp [hy])
  have hk : (if x.f0 = 1 then (2 : Int) else 1) = 1 ∨ (if x.f0 = 1 then (2 : Int) else 1) = 2 := by split <;> simp
  have hpl : (a5S (a0C m wide x)).length ≤ 3 := by unfold a5S; rw [List.length_map, List.length_range]; exact hc
  have hps := c8y (a0C m wide x)
  have hpb := b43 (b1X m wide x hb)
  unfold a2A
  generalize a5S (a0C m wide x) = ps at hpl hps hpb ⊢
  generalize (if x.f0 = 1 then (2 : Int) else 1) = kd at hk ⊢
  have hone : ∀ p ∈ ps, b0Y (a9e kd p) ∧ (a2z kd 0 p && decide (p.length ≤ 65535)) = true := by
   intro p hp
   refine ⟨⟨⟨by show _ ≤ kd; omega, by show kd ≤ _; omega⟩, ⟨by show (0 : Int) ≤ 0; omega, by show (0 : Int) < _; omega⟩, hpb p hp⟩, ?_⟩
   rw [Bool.and_eq_true, decide_eq_true_iff]
   refine ⟨?_, hps p hp⟩
   unfold a2z
   rw [if_pos hk]
   rfl
  have htot : tot (ps.map (a9e kd)) ≤ ps.length * 65540 := by
   clear hpl hpb hone
   induction ps with
   | nil => exact Nat.le_refl _
   | cons p ps ih =>
    have h1 := hps p (by simp)
    have h2 := ih fun q hq => hps q (by simp [hq])
    have h3 : (a9e kd p).f2.length = p.length := rfl
    rw [List.map_cons, tot, List.length_cons]
    omega
  refine ⟨?_, ?_, ?_, ?_⟩
  ·intro y hy
   rcases List.mem_append.1 hy with hy | hy
   ·obtain ⟨p, hp, rfl⟩ := List.mem_map.1 hy
    exact (hone p hp).1
   ·exact i1 y hy
  ·unfold b08 at i2 ⊢
   rw [List.all_append, i2, Bool.and_true, List.all_map, List.all_eq_true]
   intro p hp
   exact (hone p hp).2
  ·rw [c8q, List.length_cons]
   omega
  ·rw [List.length_append, List.length_map, List.length_cons]
   omega
theorem d2W (l : List Note) : (a5R l).length ≤ tot l := by
 induction l with
 | nil => exact Nat.le_refl _
 | cons x l ih =>
  have := b9G x.f0 x.f1 x.f2
  show (a6U x.f0 x.f1 x.f2 ++ a5R l).length ≤ x.f2.length + 5 + tot l
  rw [List.length_append]
  omega
theorem c8A {l : List Note} (hx : ∀ x ∈ l, b0Y x) (ha : b08 l = true) : Bytes (a5R l) := by
 induction l with
 | nil => exact Bytes.nil
 | cons x l ih =>
  simp only [b08, List.all_cons, Bool.and_eq_true, decide_eq_true_eq] at ha
  have h := hx x (List.mem_cons_self ..)
  exact (c8p ha.1.1 h.2.1.1 h.2.2 ha.1.2).append (ih (fun y hy => hx y (List.mem_cons_of_mem _ hy)) (by simpa only [b08, List.all_eq_true, Bool.and_eq_true, decide_eq_true_eq] using ha.2))
theorem d2X (m : Int) (wide : Bool) (h0 : 0 ≤ m) (h1 : m < 4294967296) (l : List Item) (hn : l.length ≤ 60) (h : ∀ x ∈ l, a4X x = true ∧ Bytes x.f2) : Ev (fun k => capture_notes_write.f k l m wide) (a5R (a2A m wide l), 0) := by
 obtain ⟨i1, i2, i3, i4⟩ := b5U m wide l h
 have hg := e5v m wide h0 h1 l [] h (by rw [List.length_nil]; omega)
 rw [List.nil_append] at hg
 have hp := d2S (a2A m wide l) (by omega) i1 (by omega)
 rw [d7T _ _ i2, List.nil_append] at hp
 unfold capture_notes_write.f
 exact Ev.bind hg hp
def b6p (dir : Int) (rows : List (List Int)) (out : List Item) : List Item := rows.foldl (fun o b => b09 o dir b) out
theorem c0W (out : List Item) (dir : Int) (b : List Int) : (b09 out dir b).length ≤ out.length + 1 := by
 unfold b09
 split
 ·rw [List.length_append, List.length_singleton]; omega
 ·omega
theorem c0X (dir : Int) : ∀ (rows : List (List Int)) (out : List Item), (∀ b ∈ rows, Bytes b ∧ b.length < 140737488355328) → out.length + rows.length ≤ 3000000000000 → Ev (fun k => capture_notes_read.each k dir rows out) (b6p dir rows out)
 | [], out, _, _ => Ev.now _
 | b :: t, out, h, hn => by
  obtain ⟨hb, hl⟩ := h b (by simp)
  rw [List.length_cons] at hn
  have := c0W out dir b
  exact Ev.bind (b2v out dir b hb hl (by omega)) (c0X dir t (b09 out dir b) (fun y hy => h y (by simp [hy])) (by omega))
theorem c0Y (dir : Int) : ∀ (rows : List (List Int)) (out : List Item), (b6p dir rows out).length ≤ out.length + rows.length
 | [], out => Nat.le_refl _
 | b :: t, out => by
  have h1 := c0W out dir b
  have h2 := c0Y dir t (b09 out dir b)
  rw [List.length_cons]
  show (b6p dir t (b09 out dir b)).length ≤ _
  omega
theorem c3S (dir : Int) (a b : List (List Int)) (out : List Item) : b6p dir (a ++ b) out = b6p dir b (b6p dir a out) := by unfold b6p; rw [List.foldl_append]
/-- s, with nothing done. -/
def bare (s : DF) : DF := { s with done := [] }
theorem c8B (m : Int) (wide : Bool) (s : DF) (a b : List Int) : (a1l m wide s (a ++ b)).done = (a1l m wide s a).done ++ (a1l m wide (bare (a1l m wide s a)) b).done ∧ bare (a1l m wide s (a ++ b)) = bare (a1l m wide (bare (a1l m wide s a)) b) := by
 have e : a1l m wide s (a ++ b) = ahead (a1l m wide s a).done (a1l m wide (bare (a1l m wide s a)) b) := by
  rw [b40]
  conv => lhs; rw [c8l (a1l m wide s a), b6m]
  rfl
 rw [e]
 exact ⟨rfl, rfl⟩
/-- A stream's parts, read one behind another. -/
theorem b9O {α : Type} (m : Int) (wide : Bool) (h0 : 0 ≤ m) (h1 : m < 4294967296) (K dir : Int) (H : Nat → List Note → DF → List Item → Option α)
  (hH : ∀ k b t s out, H k (a9e K b :: t) s out = (DF.feed k m wide s b).bind fun s' => (capture_notes_read.each k dir s'.done out).bind fun o => H k t (bare s') o) (rest : List Note) (r : α) :
  ∀ (ps : List (List Int)) (s : DF) (out : List Item), s.done = [] → Bytes s.held → (∀ p ∈ ps, Bytes p) → s.held.length + ps.flatten.length ≤ 1000000000 → out.length + ps.flatten.length ≤ 1000000000 →
   (∀ b ∈ (a1l m wide s ps.flatten).done, Bytes b ∧ b.length < 140737488355328) →
   Ev (fun k => H k rest (bare (a1l m wide s ps.flatten)) (b6p dir (a1l m wide s ps.flatten).done out)) r →
   Ev (fun k => H k (ps.map (a9e K) ++ rest) s out) r
 | [], s, out, hd, hs, hp, hl, ho, hb, hr => by
  have e1 : a1l m wide s ([] : List (List Int)).flatten = s := rfl
  have e2 : bare s = s := by unfold bare; cases s; subst hd; rfl
  rw [e1, e2, hd] at hr
  exact hr
 | p :: ps, s, out, hd, hs, hp, hl, ho, hb, hr => by
  have hbp := hp p (by simp)
  have hh := b9A m wide p s hbp hs
  obtain ⟨f1, f2⟩ := c8B m wide s p ps.flatten
  have hds : s.done.length = 0 := by rw [hd]; rfl
  rw [List.flatten_cons, List.length_append] at hl ho
  rw [List.flatten_cons] at hb hr
  rw [f1] at hb hr
  rw [f2] at hr
  rw [c3S] at hr
  have hel := c0Y dir (a1l m wide s p).done out
  refine Ev.congr (f := fun k => (DF.feed k m wide s p).bind fun s' => (capture_notes_read.each k dir s'.done out).bind fun o => H k (ps.map (a9e K) ++ rest) (bare s') o) (fun k => ?_) ?_
  ·rw [List.map_cons, List.cons_append, hH]
  ·refine Ev.bind (c0R m wide h0 h1 p s hbp hs (by omega) (by omega)) ?_
   refine Ev.bind (c0X dir _ out (fun b hx => hb b (List.mem_append_left _ hx)) (by omega)) ?_
   exact b9O m wide h0 h1 K dir H hH rest r ps (bare (a1l m wide s p)) _ rfl hh.1 (fun q hq => hp q (by simp [hq])) (by show (a1l m wide s p).held.length + _ ≤ _; omega) (by omega) (fun b hx => hb b (List.mem_append_right _ hx)) hr
theorem c0Z (m : Int) (wide : Bool) : ∀ (l : List Int) (s : DF), s.inn = true → (a1l m wide s l).inn = true
 | [], s, h => h
 | c :: l, s, h => by
  rw [a6i]
  refine c0Z m wide l _ ?_
  unfold a2U
  rw [if_pos h]
  split
  ·exact (a9C m wide s).2.1.trans h
  ·exact h
/-- A frame between flags: what a state without held bytes comes to. -/
theorem b9P (m : Int) (wide : Bool) (x : List Int) (hb : Bytes x) (h2 : 2 ≤ x.length) (h3 : x.length ≤ 65535) (s : DF) (hh : s.held = []) (hd : s.done = []) :
  (a1l m wide s (126 :: a3v m wide x)).done = [x] ∧ (a1l m wide s (126 :: a3v m wide x)).held = [] := by
 have hout : ∀ c ∈ a2x (a5M x wide) m, c ≠ 126 := fun c hc => (c0P m _ (a7U hb wide) c hc).1
 constructor
 ·have e := a9b m wide (126 :: a3v m wide x) s fun _ => hh
  have e2 : (b1T s.inn s.held (126 :: a3v m wide x)).foldl (tally m wide) (norm s) = norm (good s x) := by
   rw [hh]
   unfold a3v
   cases s.inn with
   | true =>
    rw [b1T, if_pos rfl, c3C _ [] [] hout, List.nil_append, List.foldl_cons, d2G, List.foldl_cons, b9z m wide _ x hb h2 h3]
    rfl
   | false =>
    rw [b1T, if_pos rfl, c3C _ [] [] hout, List.nil_append, List.foldl_cons, b9z m wide _ x hb h2 h3]
    rfl
  rw [e2] at e
  have f := congrArg (fun u : DF => u.done) e
  have g : (norm (good s x)).done = s.done ++ [x] := rfl
  have g2 : (norm (a1l m wide s (126 :: a3v m wide x))).done = (a1l m wide s (126 :: a3v m wide x)).done := rfl
  rw [← g2]
  rw [hd, List.nil_append] at g
  rw [← g]
  exact f
 ·unfold a3v
  rw [a6i, b40, a6i, b5R]
  have hi : (a2U m wide s 126).inn = true := by
   unfold a2U
   by_cases a : s.inn = true
   ·rw [if_pos a, if_pos rfl]
    exact (a9C m wide s).2.1.trans a
   ·rw [if_neg a, if_pos rfl]
  have hj := c0Z m wide (a2x (a5M x wide) m) _ hi
  generalize a1l m wide (a2U m wide s 126) (a2x (a5M x wide) m) = u at hj ⊢
  unfold a2U
  rw [if_pos hj, if_pos rfl]
theorem d71 (m : Int) (wide : Bool) (h0 : 0 ≤ m) (h1 : m < 4294967296) : ∀ (l : List Item) (s g : DF) (out : List Item), (∀ x ∈ l, a4X x = true ∧ Bytes x.f2) → out.length + l.length ≤ 1000 → s.held = [] → s.done = [] → g.held = [] → g.done = [] →
  Ev (fun k => capture_notes_read.go k m wide (a2A m wide l) s g out) (out ++ l)
 | [], s, g, out, _, _, _, _, _, _ => by rw [a2A, List.append_nil]; exact Ev.now _
 | x :: t, s, g, out, h, hn, hs1, hs2, hg1, hg2 => by
  obtain ⟨hm, hb⟩ := h x (by simp)
  have h2 := a5F hm
  have h3 := a4u x
  have h4 := b0Z m wide x hm
  have hwb := a4v hb
  rw [List.length_cons] at hn
  have hx : (⟨x.f0, x.f1, x.f2⟩ : Item) = x := rfl
  have hsb := b1X m wide x hb
  have hpf := c6x (a0C m wide x)
  have hpb := b43 hsb
  have h7T : s.held.length = 0 := by rw [hs1]; rfl
  have h7U : g.held.length = 0 := by rw [hg1]; rfl
  rw [a2A]
  rcases h2.1 with e | e
  ·rw [if_pos e]
   obtain ⟨d1, d2⟩ := b9P m wide (a0l x) hwb (by omega) (by omega) g hg1 hg2
   have es : a0C m wide x = 126 :: a3v m wide (a0l x) := by unfold a0C; rw [if_pos e]
   rw [← es] at d1 d2
   have next := d71 m wide h0 h1 t s (bare (a1l m wide g (a0C m wide x))) (out ++ [x]) (fun y hy => h y (by simp [hy])) (by rw [List.length_append, List.length_singleton]; omega) hs1 hs2 d2 rfl
   rw [List.append_assoc, List.singleton_append] at next
   refine b9O m wide h0 h1 2 1 (fun k l g out => capture_notes_read.go k m wide l s g out) (fun k b t g out => ?_) (a2A m wide t) (out ++ x :: t) (a5S (a0C m wide x)) g out hg2 (by rw [hg1]; exact Bytes.nil) hpb (by rw [hpf]; omega) (by rw [hpf]; omega) ?_ ?_
   ·show capture_notes_read.go k m wide (a9e 2 b :: t) s g out = _
    rw [capture_notes_read.go, if_neg (by show ¬ (2 : Int) = 1; decide), if_pos (by show (2 : Int) = 2; rfl)]
    rfl
   ·rw [hpf, d1]
    intro b hbm
    rw [List.mem_singleton.1 hbm]
    exact ⟨hwb, by omega⟩
   ·rw [hpf, d1]
    show Ev (fun k => capture_notes_read.go k m wide (a2A m wide t) s (bare (a1l m wide g (a0C m wide x))) (b09 out 1 (a0l x))) _
    rw [a7W out 1 x hm, ← e, hx]
    exact next
  ·have e1 : ¬ x.f0 = 1 := by omega
   rw [if_neg e1]
   obtain ⟨d1, d2⟩ := b9P 0 wide (a0l x) hwb (by omega) (by omega) s hs1 hs2
   have es : a0C m wide x = 126 :: a3v 0 wide (a0l x) := by unfold a0C; rw [if_neg e1]
   rw [← es] at d1 d2
   have next := d71 m wide h0 h1 t (bare (a1l 0 wide s (a0C m wide x))) g (out ++ [x]) (fun y hy => h y (by simp [hy])) (by rw [List.length_append, List.length_singleton]; omega) d2 rfl hg1 hg2
   rw [List.append_assoc, List.singleton_append] at next
   refine b9O 0 wide (by decide) (by decide) 1 2 (fun k l s out => capture_notes_read.go k m wide l s g out) (fun k b t s out => ?_) (a2A m wide t) (out ++ x :: t) (a5S (a0C m wide x)) s out hs2 (by rw [hs1]; exact Bytes.nil) hpb (by rw [hpf]; omega) (by rw [hpf]; omega) ?_ ?_
   ·show capture_notes_read.go k m wide (a9e 1 b :: t) s g out = _
    rw [capture_notes_read.go, if_pos (by show (1 : Int) = 1; rfl)]
    rfl
   ·rw [hpf, d1]
    intro b hbm
    rw [List.mem_singleton.1 hbm]
    exact ⟨hwb, by omega⟩
   ·rw [hpf, d1]
    show Ev (fun k => capture_notes_read.go k m wide (a2A m wide t) (bare (a1l 0 wide s (a0C m wide x))) g (b09 out 2 (a0l x))) _
    rw [a7W out 2 x hm, ← e, hx]
    exact next
theorem c8C (m : Int) (wide : Bool) (h0 : 0 ≤ m) (h1 : m < 4294967296) (l : List Item) (hn : l.length ≤ 60) (h : ∀ x ∈ l, a4X x = true ∧ Bytes x.f2) : Ev (fun k => capture_notes_read.f k (a5R (a2A m wide l)) m wide) (l, 0, 0) := by
 obtain ⟨i1, i2, i3, i4⟩ := b5U m wide l h
 have hlen := d2W (a2A m wide l)
 have hg := d71 m wide h0 h1 l DF.init DF.init [] h (by rw [List.length_nil]; omega) rfl rfl rfl rfl
 rw [List.nil_append] at hg
 unfold capture_notes_read.f
 refine Ev.bind (c8w (a5R (a2A m wide l)) (c8A i1 i2) (by omega)) ?_
 rw [c6t (a2A m wide l) i1 i2]
 refine Ev.congr (fun k => if_neg (by simp)) ?_
 exact Ev.bind hg (Ev.now _)
theorem d2Y (l : List Item) : ∀ (d i : Nat) (n : Int), l.length - i = d → i ≤ l.length → 0 ≤ n → n ≤ 100000 * i → ∃ b : Bool, Ev (fun k => U6.l0 k l n (i : Int)) b ∧ (b = true → l.length ≤ 60) := by
 intro d
 induction d with
 | zero =>
  intro i n hd hi h0 hn
  by_cases a : (l.length : Int) ≤ 60
  ·refine ⟨decide (n ≤ 70000), Ev.step (f := fun _ => some (decide (n ≤ 70000))) (fun k => ?_) (Ev.now _), fun h => by omega⟩
   rw [U6.l0, if_neg (by omega), if_pos a]
  ·refine ⟨false, Ev.step (f := fun _ => some false) (fun k => ?_) (Ev.now _), fun h => by cases h⟩
   rw [U6.l0, if_neg (by omega), if_neg a]
 | succ d ih =>
  intro i n hd hi h0 hn
  have hlt : i < l.length := by omega
  by_cases c : i < 100
  ·have hm : 0 ≤ mn ((l[i].f2.length : Int)) 100000 ∧ mn ((l[i].f2.length : Int)) 100000 ≤ 100000 := by
    unfold mn
    split <;> omega
   obtain ⟨b, hb, hc⟩ := ih (i + 1) (n + mn ((l[i].f2.length : Int)) 100000) (by omega) (by omega) (by omega) (by omega)
   refine ⟨b, Ev.step (fun k => ?_) hb, hc⟩
   rw [U6.l0, if_pos (by omega), if_pos (by omega), if_pos (by omega), c3Q l i hlt, w64 (by omega) (by omega), w64 (by omega) (by omega)]
   rfl
  ·by_cases a : (l.length : Int) ≤ 60
   ·omega
   ·refine ⟨false, Ev.step (f := fun _ => some false) (fun k => ?_) (Ev.now _), fun h => by cases h⟩
    rw [U6.l0, if_pos (by omega), if_neg (by omega), if_neg a]
theorem d2q (l : List Item) : ∃ b : Bool, Ev (fun k => U6.f k l) b ∧ (b = true → l.length ≤ 60) := d2Y l l.length 0 0 (by omega) (by omega) (by omega) (by omega)
theorem c8D (l : List Item) (hl : l.length < 4611686018427387904) : ∀ (d i : Nat), l.length - i = d → i ≤ l.length → Ev (fun k => H8.l0 k l l (i : Int)) true := by
 intro d
 induction d with
 | zero =>
  intro i hd hi
  refine Ev.step (f := fun _ => some true) (fun k => ?_) (Ev.now _)
  rw [H8.l0, if_neg (by omega)]
 | succ d ih =>
  intro i hd hi
  refine Ev.step (f := fun k => H8.l0 k l l ((i + 1 : Nat) : Int)) (fun k => ?_) (ih (i + 1) (by omega) (by omega))
  rw [H8.l0, if_pos (by omega), if_pos (by omega), if_pos (by omega), if_pos rfl, if_pos rfl, if_pos rfl, w64 (by omega) (by omega)]
  rfl
theorem b3C (l : List Item) (hl : l.length < 4611686018427387904) : Ev (fun k => H8.f k l l) true := by
 unfold H8.f
 simp only [if_true]
 exact c8D l hl _ 0 rfl (by omega)
/-- What is written, by either form, is read as it was. -/
theorem b5N (l : List Item) (hn : l.length ≤ 60) (h : ∀ x ∈ l, a4X x = true ∧ Bytes x.f2) (a0 a1 a2 a3 : Int) (s0 s1 : ByteArray) (dir m : Int) (wide : Bool) :
  Ev (fun k => capture_Write.f k l 1 a0 a1 a2 a3 s0 s1 dir m wide) (a0B l, 0) ∧ Ev (fun k => capture_Read.f k (a0B l) 1 a0 a1 a2 a3 s0 s1 dir m wide) (l, 0, 0) := by
 have hi := b3E l 0 fun x hx => (h x hx).1
 refine ⟨Ev.congr (fun k => ?_) (c6w l hn h), Ev.congr (fun k => ?_) (c3R dir l hn h)⟩
 ·unfold capture_Write.f
  rw [if_pos rfl, hi, Option.bind_some, if_neg (by decide)]
 ·unfold capture_Read.f
  rw [if_pos rfl]
theorem c02 (l : List Item) (hn : l.length ≤ 60) (h : ∀ x ∈ l, a4X x = true ∧ Bytes x.f2) (a0 a1 a2 a3 : Int) (s0 s1 : ByteArray) (dir m : Int) (wide : Bool) (h0 : 0 ≤ m) (h1 : m < 4294967296) :
  Ev (fun k => capture_Write.f k l 2 a0 a1 a2 a3 s0 s1 dir m wide) (a5R (a2A m wide l), 0) ∧ Ev (fun k => capture_Read.f k (a5R (a2A m wide l)) 2 a0 a1 a2 a3 s0 s1 dir m wide) (l, 0, 0) := by
 have hi := b3E l 0 fun x hx => (h x hx).1
 refine ⟨Ev.congr (fun k => ?_) (d2X m wide h0 h1 l hn h), Ev.congr (fun k => ?_) (c8C m wide h0 h1 l hn h)⟩
 ·unfold capture_Write.f
  rw [if_neg (by decide), if_pos rfl, hi, Option.bind_some, if_neg (by decide)]
 ·unfold capture_Read.f
  rw [if_neg (by decide), if_pos rfl]
theorem f0x (form : Int) (hf : form = 1 ∨ form = 2) (l : List Item) (hn : l.length ≤ 60) (h : ∀ x ∈ l, a4X x = true ∧ Bytes x.f2) (a0 a1 a2 a3 : Int) (s0 s1 : ByteArray) (dir m : Int) (wide : Bool) (h0 : 0 ≤ m) (h1 : m < 4294967296) :
  ∃ b, Ev (fun k => capture_Write.f k l form a0 a1 a2 a3 s0 s1 dir m wide) (b, 0) ∧ Ev (fun k => capture_Read.f k b form a0 a1 a2 a3 s0 s1 dir m wide) (l, 0, 0) := by
 rcases hf with rfl | rfl
 ·exact ⟨_, b5N l hn h a0 a1 a2 a3 s0 s1 dir m wide⟩
 ·exact ⟨_, c02 l hn h a0 a1 a2 a3 s0 s1 dir m wide h0 h1⟩
theorem c0L (form : Int) (hf : form = 1 ∨ form = 2) (l : List Item) (h : ∃ x ∈ l, a4X x = false) (k : Nat) (a0 a1 a2 a3 : Int) (s0 s1 : ByteArray) (dir m : Int) (wide : Bool) :
  capture_Write.f k l form a0 a1 a2 a3 s0 s1 dir m wide = some ([], 1) := by
 obtain ⟨i, h0, hi⟩ := c0U l 0 h
 unfold capture_Write.f
 rcases hf with rfl | rfl
 ·rw [if_pos rfl, hi, Option.bind_some, if_pos h0]
 ·rw [if_neg (by decide), if_pos rfl, hi, Option.bind_some, if_pos h0]
theorem d1x {x : Int} (h : (Lit.int .u32 x).wf = true) : 0 ≤ x ∧ x < 4294967296 := wf_u32 h
theorem e2P {l : List Int} (h : ∀ x ∈ l, (Lit.int .u8 x).wf = true) : Bytes l := d7t h
def anchor : List Item := [⟨1, 49185, [1, 1, 0, 4]⟩, ⟨2, 33, [122]⟩]
theorem c04 : ∀ x ∈ anchor, a4X x = true ∧ Bytes x.f2 := by
 intro x hx
 have hx' : x = ⟨1, 49185, [1, 1, 0, 4]⟩ ∨ x = ⟨2, 33, [122]⟩ := by
  unfold anchor at hx
  simpa using hx
 rcases hx' with rfl | rfl
 ·exact ⟨by decide, Bytes.cons (by decide) (Bytes.cons (by decide) (Bytes.cons (by decide) (Bytes.cons (by decide) Bytes.nil)))⟩
 ·exact ⟨by decide, Bytes.cons (by decide) Bytes.nil⟩
theorem c8E : ((a0B anchor).length : Int) = 71 := by decide +kernel
theorem c0J : Ev (fun k => umpirelaw11_awake.f k) true := by
 obtain ⟨w1, r1⟩ := b5N anchor (by decide) c04 0 0 0 0 (⟨#[]⟩ : ByteArray) (⟨#[]⟩ : ByteArray) 0 0 false
 obtain ⟨w2, r2⟩ := c02 anchor (by decide) c04 0 0 0 0 (⟨#[]⟩ : ByteArray) (⟨#[]⟩ : ByteArray) 0 0 false (by decide) (by decide)
 have hs := b3C anchor (by decide)
 have hlen := c8E
 have w3 : Ev (fun k => capture_Write.f k anchor 3 0 0 0 0 (⟨#[]⟩ : ByteArray) (⟨#[]⟩ : ByteArray) 0 0 false) ([], 7) := Ev.congr (f := fun _ => some ([], 7)) (fun k => rfl) (Ev.now _)
 have w4 : Ev (fun k => capture_Write.f k [(⟨0, 0, []⟩ : Item)] 1 0 0 0 0 (⟨#[]⟩ : ByteArray) (⟨#[]⟩ : ByteArray) 0 0 false) ([], 1) := Ev.congr (f := fun _ => some ([], 1)) (fun k => c0L 1 (.inl rfl) _ ⟨⟨0, 0, []⟩, by simp, by decide⟩ k 0 0 0 0 _ _ 0 0 false) (Ev.now _)
 have r3 : Ev (fun k => capture_Read.f k (a0B anchor) 3 0 0 0 0 (⟨#[]⟩ : ByteArray) (⟨#[]⟩ : ByteArray) 0 0 false) ([], 0, 7) := Ev.congr (f := fun _ => some ([], 0, 7)) (fun k => rfl) (Ev.now _)
 unfold umpirelaw11_awake.f
 refine Ev.bind (Ev.now anchor) ?_
 refine Ev.bind w1 (Ev.bind w2 (Ev.bind r1 (Ev.bind r2 ?_)))
 refine Ev.bind w3 (Ev.bind w4 (Ev.bind r3 ?_))
 refine Ev.congr (fun k => if_pos rfl) ?_
 refine Ev.congr (fun k => if_pos rfl) ?_
 refine Ev.congr (fun k => if_pos hlen) ?_
 refine Ev.bind hs ?_
 refine Ev.congr (fun k => if_pos rfl) ?_
 refine Ev.congr (fun k => if_pos rfl) ?_
 refine Ev.bind hs ?_
 refine Ev.congr (fun k => if_pos rfl) ?_
 refine Ev.congr (fun k => if_pos rfl) ?_
 refine Ev.congr (fun k => if_pos rfl) ?_
 refine Ev.congr (fun k => if_pos rfl) ?_
 refine Ev.congr (fun k => if_pos rfl) ?_
 refine Ev.congr (fun k => if_pos (by decide)) ?_
 refine Ev.congr (f := fun _ => some true) (fun k => ?_) (Ev.now _)
 have e : F7 anchor 0 = ⟨1, 49185, [1, 1, 0, 4]⟩ := rfl
 rw [b2u, e]
 rfl
/-- A record whose numbers are t. -/
def timed (t : Int) (r : S51) : S51 := ⟨t, t, t, r.f3⟩
/-- A record without its first byte. -/
def a8Y (r : S51) : S51 := ⟨r.f0, r.f1, r.f2, r.f3.drop 1⟩
def turned (dir : Int) (x : Item) : Item := ⟨dir, x.f1, x.f2⟩
/-- A capture of records, whatever its head: what reading it gives. -/
theorem c56 (big nano : Bool) (s link dir : Int) (R : List S51) (out : List Item) (hs : 0 ≤ s ∧ s < 4294967296) (hk : link = 204 ∨ link = 50) (hR : ∀ r ∈ R, Fine r ∧ Bytes r.f3) (hc : a9d R ≤ 140000000)
  (hg : Ev (fun k => capture_records_read.go k dir link R []) out) : Ev (fun k => capture_records_read.f k (a1k big nano s link ++ (R.map (a3T big)).flatten) dir) (out, 0, 0) := by
 have hkr : 0 ≤ link ∧ link < 4294967296 := by omega
 have hB : Bytes (a1k big nano s link ++ (R.map (a3T big)).flatten) := (b5T _ _ _ _).append (b9J big R fun r hr => (hR r hr).2)
 have hh := a5E big nano s link
 have hrl := b9K big R
 have hdrop : (a1k big nano s link ++ (R.map (a3T big)).flatten).drop 24 = (R.map (a3T big)).flatten := List.drop_left' hh
 have hlen : (a1k big nano s link ++ (R.map (a3T big)).flatten).length = 24 + a9d R := by rw [List.length_append, hh, hrl]
 have hv2 := b1W big nano s link hs hkr (R.map (a3T big)).flatten (a1k big nano s link ++ (R.map (a3T big)).flatten).length (Nat.le_refl _) (by omega)
 rw [List.take_length] at hv2
 have hodd : capture_records_read.odd link = false := by
  rcases hk with rfl | rfl <;> decide
 generalize a1k big nano s link ++ (R.map (a3T big)).flatten = x at hB hdrop hlen hv2 ⊢
 unfold capture_records_read.f
 refine Ev.bind (b6n x hB (by omega)) ?_
 unfold b0X
 rw [hv2, if_pos rfl]
 dsimp only
 rw [a9E big x R 24 [] (x.length + 1) (fun r hr => (hR r hr).1) hdrop (by omega) (by omega), List.nil_append]
 refine Ev.congr (fun k => if_neg (by simp)) ?_
 refine Ev.congr (fun k => if_neg (by rw [hodd]; decide)) ?_
 exact Ev.bind hg (Ev.now _)
theorem c54 (t dir : Int) : ∀ (l : List Item) (i : Nat) (out : List Item), (∀ x ∈ l, a4X x = true ∧ Bytes x.f2) → out.length + l.length ≤ 1000 → Ev (fun k => capture_records_read.go k dir 204 ((a0U i l).map (timed t)) out) (out ++ l)
 | [], i, out, _, _ => by rw [List.append_nil]; exact Ev.now _
 | x :: l, i, out, h, hn => by
  obtain ⟨hm, hb⟩ := h x (by simp)
  have h1 := a5F hm
  have h2 := a4u x
  rw [List.length_cons] at hn
  refine Ev.congr (f := fun k => (a0r.f k out x.f0 (a0l x)).bind fun o => capture_records_read.go k dir 204 ((a0U (i + 1) l).map (timed t)) o) (fun k => ?_) ?_
  ·rw [a0U, List.map_cons, capture_records_read.go, show (timed t (recv i x)).f3 = (recv i x).f3 from rfl, c0V dir i x hm]
  ·refine Ev.bind (b2v out x.f0 (a0l x) (a4v hb) (by omega) (by omega)) ?_
   rw [a7W out x.f0 x hm]
   have := c54 t dir l (i + 1) (out ++ [x]) (fun y hy => h y (by simp [hy])) (by rw [List.length_append, List.length_singleton]; omega)
   rw [List.append_assoc, List.singleton_append] at this
   exact this
theorem c0K (t dir : Int) : ∀ (l : List Item) (i : Nat) (out : List Item), (∀ x ∈ l, a4X x = true ∧ Bytes x.f2) → out.length + l.length ≤ 1000 → Ev (fun k => capture_records_read.go k dir 50 (((a0U i l).map (timed t)).map a8Y) out) (out ++ l.map (turned dir))
 | [], i, out, _, _ => by rw [List.map_nil, List.append_nil]; exact Ev.now _
 | x :: l, i, out, h, hn => by
  obtain ⟨hm, hb⟩ := h x (by simp)
  have h1 := a5F hm
  have h2 := a4u x
  rw [List.length_cons] at hn
  have e : capture_records_read.of dir 50 (a8Y (timed t (recv i x))).f3 = (dir, a0l x) := by
   unfold capture_records_read.of
   rw [if_neg (fun hh => absurd hh.1 (by decide))]
   rfl
  refine Ev.congr (f := fun k => (a0r.f k out dir (a0l x)).bind fun o => capture_records_read.go k dir 50 (((a0U (i + 1) l).map (timed t)).map a8Y) o) (fun k => ?_) ?_
  ·rw [a0U, List.map_cons, List.map_cons, capture_records_read.go, e]
  ·refine Ev.bind (b2v out dir (a0l x) (a4v hb) (by omega) (by omega)) ?_
   rw [a7W out dir x hm]
   have := c0K t dir l (i + 1) (out ++ [turned dir x]) (fun y hy => h y (by simp [hy])) (by rw [List.length_append, List.length_singleton]; omega)
   rw [List.append_assoc, List.singleton_append] at this
   exact this
theorem c7Y (t : Int) (ht : 0 ≤ t ∧ t < 4294967296) (R : List S51) (hR : ∀ r ∈ R, Fine r ∧ Bytes r.f3) : ∀ r ∈ R.map (timed t), Fine r ∧ Bytes r.f3 := by
 intro r hr
 obtain ⟨r0, h0, rfl⟩ := List.mem_map.1 hr
 obtain ⟨f, b⟩ := hR r0 h0
 exact ⟨⟨⟨ht, ht, ht⟩, f.2⟩, b⟩
theorem c5Z (R : List S51) (hR : ∀ r ∈ R, Fine r ∧ Bytes r.f3) : ∀ r ∈ R.map a8Y, Fine r ∧ Bytes r.f3 := by
 intro r hr
 obtain ⟨r0, h0, rfl⟩ := List.mem_map.1 hr
 obtain ⟨f, b⟩ := hR r0 h0
 refine ⟨⟨f.1, ?_⟩, b.drop 1⟩
 have h1 : (r0.f3.drop 1).length ≤ r0.f3.length := by rw [List.length_drop]; omega
 have h2 := f.2
 show ((r0.f3.drop 1).length : Int) ≤ 131072
 omega
theorem c7Z (t : Int) (R : List S51) : a9d (R.map (timed t)) = a9d R := by
 induction R with
 | nil => rfl
 | cons r R ih =>
  rw [List.map_cons, a9d, a9d, ih]
  rfl
theorem c52 (R : List S51) : a9d (R.map a8Y) ≤ a9d R := by
 induction R with
 | nil => exact Nat.le_refl _
 | cons r R ih =>
  have h1 : (a8Y r).f3.length ≤ r.f3.length := by
   show (r.f3.drop 1).length ≤ _
   rw [List.length_drop]
   omega
  rw [List.map_cons, a9d, a9d]
  omega
/-- A row's place behind its first part. -/
theorem b7L (A : List S51) (r : S51) (B : List S51) : y9 (A ++ r :: B) (A.length : Int) = r := by
 rw [c3H (A ++ r :: B) A.length (by rw [List.length_append, List.length_cons]; omega)]
 simp
theorem set_mid {α : Type} (A : List α) (r s : α) (B : List α) : (A ++ r :: B).set A.length s = A ++ s :: B := by
 rw [List.set_append_right _ _ (Nat.le_refl _), Nat.sub_self, List.set_cons_zero]
theorem e2O (A : List Item) (r : Item) (B : List Item) : F7 (A ++ r :: B) (A.length : Int) = r := by
 rw [c3Q (A ++ r :: B) A.length (by rw [List.length_append, List.length_cons]; omega)]
 simp
theorem c55 (big nano : Bool) (s link : Int) (R : List S51) (hs : 0 ≤ s ∧ s < 4294967296) (hk : 0 ≤ link ∧ link < 4294967296) (hR : ∀ r ∈ R, Fine r ∧ Bytes r.f3) (hn : R.length ≤ 1000) (hc : a9d R ≤ 140000000) :
  Ev (fun k => umpireref09_Put.f k big nano s link R) (a1k big nano s link ++ (R.map (a3T big)).flatten, 0) := by
 have hp := c3J big nano s link R (by omega) (fun r hr => (hR r hr).1.1) hs hk hc
 rw [c6v big R (fun r hr => (hR r hr).1.2)] at hp
 exact hp
theorem b9n (l : List Item) (hn : l.length ≤ 60) (h : ∀ x ∈ l, a4X x = true ∧ Bytes x.f2) : Ev (fun k => umpireref09_Read.f k (a0B l)) (false, false, 65535, 204, a0U 0 l, 0, 0) := by
 have hf := b0R l hn h
 have hc := a8Z l 0 fun x hx => (h x hx).1
 have hB : Bytes (a0B l) := (b5T _ _ _ _).append (b9J false _ fun r hr => (hf r hr).2)
 have hh := a5E false false 65535 204
 have hrl := b9K false (a0U 0 l)
 have hdrop : (a0B l).drop 24 = ((a0U 0 l).map (a3T false)).flatten := List.drop_left' hh
 have hlen : (a0B l).length = 24 + a9d (a0U 0 l) := by unfold a0B; rw [List.length_append, hh, hrl]
 have hv2 := b1W false false 65535 204 ⟨by omega, by omega⟩ ⟨by omega, by omega⟩ ((a0U 0 l).map (a3T false)).flatten (a0B l).length (Nat.le_refl _) (by omega)
 have e : a1k false false 65535 204 ++ ((a0U 0 l).map (a3T false)).flatten = a0B l := rfl
 rw [e, List.take_length] at hv2
 have hr := c3N (a0B l) hB (by omega)
 unfold b0X at hr
 rw [hv2, if_pos rfl] at hr
 dsimp only at hr
 rw [a9E false (a0B l) (a0U 0 l) 24 [] ((a0B l).length + 1) (fun r hr => (hf r hr).1) hdrop (by omega) (by omega), List.nil_append] at hr
 exact hr
end Go.Proofs.YtgnonglkibhnhaaDoor.Q
