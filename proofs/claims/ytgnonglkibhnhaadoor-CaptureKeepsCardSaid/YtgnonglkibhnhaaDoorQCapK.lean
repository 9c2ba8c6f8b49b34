/- Plain lemmas of this claim. -/
import Derived.Test.YtgnonglkibhnhaaDoorF9
namespace Go.Proofs.YtgnonglkibhnhaaDoor.Q
open Go.RowKit Go.Proofs.YtgnonglkibhnhaaDoor.Print Go.Proofs.YtgnonglkibhnhaaDoorW.PrintWords Go.Proofs.YtgnonglkibhnhaaDoorW.PrintLast Go.Proofs.YtgnonglkibhnhaaDoorW.PrintMore
set_option linter.unusedVariables false
set_option linter.unusedSimpArgs false
theorem wf_u8 {x : Int} (h : (Lit.int .u8 x).wf = true) : 0 ≤ x ∧ x < 256 := by
 simp [Lit.wf, IntKind.min, IntKind.max, IntKind.bits, IntKind.signed] at h; omega
theorem wf_u32 {x : Int} (h : (Lit.int .u32 x).wf = true) : 0 ≤ x ∧ x < 4294967296 := by
 simp [Lit.wf, IntKind.min, IntKind.max, IntKind.bits, IntKind.signed] at h; omega
def Bytes (l : List Int) : Prop := ∀ x ∈ l, 0 ≤ x ∧ x < 256
theorem d4U {l : List Int} (h : ∀ x ∈ l, (Lit.int .u8 x).wf = true) : Bytes l := fun x hx => wf_u8 (h x hx)
theorem Bytes.nil : Bytes [] := fun _ h => by cases h
theorem Bytes.cons {x : Int} {l : List Int} (hx : 0 ≤ x ∧ x < 256) (h : Bytes l) : Bytes (x :: l) := by
 intro y hy
 rcases List.mem_cons.1 hy with rfl | hy
 ·exact hx
 ·exact h y hy
theorem Bytes.append {a b : List Int} (ha : Bytes a) (hb : Bytes b) : Bytes (a ++ b) := fun x hx => (List.mem_append.1 hx).elim (ha x) (hb x)
theorem Bytes.left {a b : List Int} (h : Bytes (a ++ b)) : Bytes a := fun x hx => h x (List.mem_append_left _ hx)
theorem Bytes.right {a b : List Int} (h : Bytes (a ++ b)) : Bytes b := fun x hx => h x (List.mem_append_right _ hx)
theorem Bytes.take {a : List Int} (n : Nat) (h : Bytes a) : Bytes (a.take n) := fun x hx => h x (List.mem_of_mem_take hx)
theorem Bytes.drop {a : List Int} (n : Nat) (h : Bytes a) : Bytes (a.drop n) := fun x hx => h x (List.mem_of_mem_drop hx)
theorem Bytes.reverse {a : List Int} (h : Bytes a) : Bytes a.reverse := fun x hx => h x (List.mem_reverse.1 hx)
theorem Bytes.at {a : List Int} (h : Bytes a) (i : Int) : 0 ≤ rd a i ∧ rd a i < 256 := by
 unfold rd
 rw [List.getD_eq_getElem?_getD]
 rcases Nat.lt_or_ge i.toNat a.length with hi | hi
 ·rw [List.getElem?_eq_getElem hi]; exact h _ (List.getElem_mem hi)
 ·rw [List.getElem?_eq_none hi]; exact ⟨by decide, by decide⟩
theorem Bytes.get {a : List Int} (h : Bytes a) (i : Nat) (hi : i < a.length) : 0 ≤ a[i] ∧ a[i] < 256 := h _ (List.getElem_mem hi)
theorem a1V {a : List Int} (i : Nat) (hi : i < a.length) : rd a (i : Int) = a[i] := by
 unfold rd
 rw [Int.toNat_natCast, List.getD_eq_getElem?_getD, List.getElem?_eq_getElem hi]
 rfl
theorem w64 {x : Int} (h0 : -9223372036854775808 ≤ x) (h1 : x ≤ 9223372036854775807) : wrap64 x = x := by unfold wrap64; omega
theorem wu64 (x : Int) : IntKind.u64.wrap x = x % 18446744073709551616 := by simp [IntKind.wrap, IntKind.bits, IntKind.signed]
theorem b40 {x : Int} (h0 : 0 ≤ x) (h1 : x < 18446744073709551616) : IntKind.u64.wrap x = x := by rw [wu64]; omega
theorem g2J (x : Int) : IntKind.u32.wrap x = x % 4294967296 := by simp [IntKind.wrap, IntKind.bits, IntKind.signed]
theorem d4V {x : Int} (h0 : 0 ≤ x) (h1 : x < 4294967296) : IntKind.u32.wrap x = x := by rw [g2J]; omega
theorem b41 {a b : Nat} (ha : a < 4294967296) (hb : b < 4294967296) : Go.bits .and .u32 (a : Int) (b : Int) = ((a &&& b : Nat) : Int) :=
 (bits_nat .u32 32 (by decide) (fun n h0 h1 => d4V h0 (by simpa using h1)) a b (by simpa using ha) (by simpa using hb)).1
theorem c67 {x y : Int} {i : Nat} (hx0 : 0 ≤ x) (hx : x % 2 ^ i = 0) (hx1 : x < 18446744073709551616) (hy0 : 0 ≤ y) (hy : y < 2 ^ i) (hy1 : y < 18446744073709551616) : Go.bits .or .u64 x y = x + y :=
 bits_join .u64 64 (by decide) (fun n h0 h1 => b40 h0 (by simpa using h1)) i x y hx0 hx (by simpa using hx1) hy0 hy (by simpa using hy1)
theorem c9w {x : Int} (h0 : 0 ≤ x) (h1 : x < 4294967296) : Go.bits .and .u32 x 1 = x % 2 := by
 have := bits_mask .u32 32 (by decide) (fun n h0 h1 => d4V h0 (by simpa using h1)) 1 (by decide) x h0 (by simpa using h1)
 simpa using this
theorem b8o (l : List Int) : (strOfNums l).toList = l.map fun n => UInt8.ofNat n.toNat := by
 rw [ByteArray.toList_eq, strOfNums_data]
theorem d4W {x y : Int} (hx : 0 ≤ x ∧ x < 256) (hy : 0 ≤ y ∧ y < 256) (h : UInt8.ofNat x.toNat = UInt8.ofNat y.toNat) : x = y := by
 have := congrArg UInt8.toNat h
 simp only [UInt8.toNat_ofNat'] at this
 omega
theorem c0z {a b : List Int} (ha : Bytes a) (hb : Bytes b) (h : (strOfNums a).toList = (strOfNums b).toList) : a = b := by
 rw [b8o, b8o] at h
 induction a generalizing b with
 | nil =>
  cases b with
  | nil => rfl
  | cons y b => simp at h
 | cons x a ih =>
  cases b with
  | nil => simp at h
  | cons y b =>
   simp only [List.map_cons, List.cons.injEq] at h
   obtain rfl := d4W (ha x (by simp)) (hb y (by simp)) h.1; rw [ih (fun z hz => ha z (List.mem_cons_of_mem _ hz)) (fun z hz => hb z (List.mem_cons_of_mem _ hz)) h.2]
theorem d2Z {a b : List Int} (ha : Bytes a) (hb : Bytes b) : ((strOfNums a).toList = (strOfNums b).toList) ↔ a = b := ⟨c0z ha hb, fun h => by rw [h]⟩
theorem Ev.at {α : Type} {g : Nat → Option α} {r : α} {K : Nat} (h : ∀ k, K ≤ k → g k = some r) : Ev g r := ⟨K, h⟩
theorem Ev.const {α : Type} {g : Option α} {r : α} (h : g = some r) : Ev (fun _ => g) r := ⟨0, fun _ _ => h⟩
theorem d99 {k n : Nat} (h : n < k) : ∃ m, k = m + 1 ∧ n ≤ m := ⟨k - 1, by omega, by omega⟩
def leb (n : Int) : Nat → List Int
 | 0 => []
 | s + 1 => n % 256 :: leb (n / 256) s
theorem a3S (n : Int) (s : Nat) : (leb n s).length = s := by
 induction s generalizing n with
 | zero => rfl
 | succ s ih => simp [leb, ih]
theorem b6h (n : Int) (s : Nat) : Bytes (leb n s) := by
 induction s generalizing n with
 | zero => exact Bytes.nil
 | succ s ih => exact Bytes.cons (by omega) (ih _)
theorem c9x (n : Int) (s i : Nat) (h : i < (leb n s).length) : (leb n s)[i] = n / 256 ^ i % 256 := by
 induction s generalizing n i with
 | zero => simp [leb] at h
 | succ s ih =>
  cases i with
  | zero => simp [leb]
  | succ i =>
   simp only [leb, List.getElem_cons_succ]
   rw [ih, Int.pow_succ, Int.mul_comm, Int.ediv_ediv_of_nonneg (by decide)]
theorem b8p (n : Int) (s : Nat) : leb n (s + 1) = leb n s ++ [n / 256 ^ s % 256] := by
 apply List.ext_getElem
 ·simp [a3S]
 ·intro i h1 h2; rw [c9x]; rw [a3S] at h1
  rcases Nat.lt_or_ge i s with hi | hi
  ·rw [List.getElem_append_left (by rw [a3S]; exact hi), c9x]
  ·obtain rfl : i = s := by omega
   rw [List.getElem_append_right (by rw [a3S]; exact Nat.le_refl _)]
   simp [a3S]
def a0n (l : List Int) : Int := l.foldl (fun a b => a * 256 + b) 0
theorem a5q (l : List Int) (x : Int) : a0n (l ++ [x]) = a0n l * 256 + x := by simp [a0n]
theorem a6s (l : List Int) (h : Bytes l) : 0 ≤ a0n l ∧ a0n l < 256 ^ l.length := by
 suffices ∀ r : List Int, Bytes r.reverse → 0 ≤ a0n r.reverse ∧ a0n r.reverse < 256 ^ r.length by
  have := this l.reverse (by rwa [List.reverse_reverse])
  rwa [List.reverse_reverse, List.length_reverse] at this
 intro r
 induction r with
 | nil => intro _; exact ⟨by decide, by decide⟩
 | cons x r ih =>
  intro hb; rw [List.reverse_cons] at hb ⊢; have h1 := ih hb.left; have h2 := hb.right x (by simp); rw [a5q, List.length_cons, Int.pow_succ]; exact ⟨by omega, by omega⟩
theorem c0A (l : List Int) (h : Bytes l) : leb (a0n l) l.length = l.reverse := by
 suffices ∀ r : List Int, Bytes r.reverse → leb (a0n r.reverse) r.length = r by
  have := this l.reverse (by rwa [List.reverse_reverse])
  rwa [List.reverse_reverse, List.length_reverse] at this
 intro r
 induction r with
 | nil => intro _; rfl
 | cons x r ih =>
  intro hb; rw [List.reverse_cons] at hb ⊢; have h2 := hb.right x (by simp); rw [a5q, List.length_cons, leb]; rw [show (a0n r.reverse * 256 + x) % 256 = x by omega, show (a0n r.reverse * 256 + x) / 256 = a0n r.reverse by omega, ih hb.left]
theorem d20 (n : Int) (s : Nat) (h0 : 0 ≤ n) (h1 : n < 256 ^ s) : a0n (leb n s).reverse = n := by
 induction s generalizing n with
 | zero => simp at h1; simp [leb, a0n]; omega
 | succ s ih =>
  rw [leb, List.reverse_cons, a5q, ih (n / 256) (by omega) (by rw [Int.pow_succ] at h1; omega)]
  omega
def a1W (n : Int) (s : Nat) (big : Bool) : List Int := if big then (leb n s).reverse else leb n s
theorem a1L (n : Int) (s : Nat) (big : Bool) : (a1W n s big).length = s := by
 unfold a1W; split <;> simp [a3S]
theorem c68 (n : Int) (s : Nat) (big : Bool) : Bytes (a1W n s big) := by
 unfold a1W; split
 ·exact (b6h n s).reverse
 ·exact b6h n s
def a98 (l : List Int) (big : Bool) : Int := a0n (if big then l else l.reverse)
theorem d21 (n : Int) (s : Nat) (big : Bool) (h0 : 0 ≤ n) (h1 : n < 256 ^ s) : a98 (a1W n s big) big = n := by
 unfold a98 a1W
 cases big <;> simp [d20 n s h0 h1]
theorem c0B (l : List Int) (big : Bool) (h : Bytes l) : a1W (a98 l big) l.length big = l := by
 unfold a98 a1W
 cases big
 ·have := c0A l.reverse h.reverse
  simpa using this
 ·have := c0A l h
  simp [this]
theorem c69 (l : List Int) (big : Bool) (h : Bytes l) : 0 ≤ a98 l big ∧ a98 l big < 256 ^ l.length := by
 unfold a98
 cases big
 ·have := a6s l.reverse h.reverse
  simpa using this
 ·simpa using a6s l h
theorem a99 {i j : Nat} (h : i ≤ j) : (256 : Int) ^ i ≤ 256 ^ j := by
 have h1 : ∀ k : Nat, (256 : Int) ^ k = ((256 ^ k : Nat) : Int) := fun k => (Int.natCast_pow 256 k).symm
 rw [h1, h1]
 exact Int.ofNat_le.2 (Nat.pow_le_pow_right (by decide) h)
theorem d4X : (256 : Int) ^ 8 = 18446744073709551616 := by decide
theorem c4R (i : Nat) : (256 : Int) ^ i = 2 ^ (8 * i) := by
 rw [show (256 : Int) = 2 ^ 8 from rfl, ← Int.pow_mul]
theorem b8q (l : List Int) (h : l.length < 140737488355328) : P5.f l = some l := by
 unfold P5.f
 rw [if_pos h]
def c9y (l : List Int) (at_ : Int) : List Int := l.drop at_.toNat
theorem c4S (l : List Int) (at_ : Int) (hl : l.length < 140737488355328) : a4w.f l at_ = some (c9y l at_) := by
 unfold a4w.f c9y
 have h : mn (mx at_ 0) (l.length : Int) = (min at_.toNat l.length : Nat) := by
  unfold mn mx
  split <;> split <;> omega
 rw [h, if_pos (by omega), if_pos (by omega), b8q _ (by rw [List.length_drop]; omega)]
 simp only [Option.bind_some, Int.toNat_natCast]
 congr 1
 rcases Nat.le_total at_.toNat l.length with e | e
 ·rw [Nat.min_eq_left e]
 ·rw [Nat.min_eq_right e, List.drop_of_length_le (Nat.le_refl _), List.drop_of_length_le e]
theorem b8r {n : Int} (h0 : 0 ≤ n) (h1 : n < 2 ^ 63) : IntKind.i64.wrap n = n := by
 rw [IntKind.wrap_i64]
 have : (2 : Int) ^ 63 = 9223372036854775808 := by decide
 omega
theorem e0a {x : Int} (h0 : 0 ≤ x) (h1 : x < 65536) : Go.bits .and .i64 x 1 = x % 2 := by
 have := bits_mask .i64 63 (by decide) (fun n h0 h1 => b8r h0 h1) 1 (by decide) x h0 (Int.lt_trans h1 (by decide))
 simpa using this
theorem c7a {x : Int} (h0 : 0 ≤ x) (h1 : x < 256) : Go.bits .and .u8 x 1 = x % 2 := by
 have := bits_mask .u8 8 (by decide) wraps_u8 1 (by decide) x h0 (by simpa using h1)
 simpa using this
theorem c4T {x : Int} (h0 : 0 ≤ x) (h1 : x < 65536) : (Go.bits .and .i64 x 256 = 0) ↔ x / 256 % 2 = 0 := by
 obtain ⟨n, rfl⟩ := Int.eq_ofNat_of_zero_le h0
 have h := (bits_nat .i64 63 (by decide) (fun n h0 h1 => b8r h0 h1) n 256 (Nat.lt_trans (by omega : n < 65536) (by decide)) (by decide)).1
 have e : ((256 : Nat) : Int) = 256 := rfl
 rw [e] at h
 rw [h]
 have hb : n.testBit 8 = decide (n / 256 % 2 = 1) := Nat.testBit_eq_decide_div_mod_eq
 have ht : (n &&& 256).testBit 8 = n.testBit 8 := by
  rw [Nat.testBit_and, show (256 : Nat) = 2 ^ 8 from rfl, Nat.testBit_two_pow]
  simp
 constructor
 ·intro hz; have hz' : n &&& 256 = 0 := by omega
  rw [hz', Nat.zero_testBit, hb] at ht; have : ¬ (n / 256 % 2 = 1) := of_decide_eq_false ht.symm
  omega
 ·intro hz; have hf : n.testBit 8 = false := by
   rw [hb]; exact decide_eq_false (by omega)
  have : n &&& 256 = 0 := by
   apply Nat.eq_of_testBit_eq
   intro i; rw [Nat.testBit_and, show (256 : Nat) = 2 ^ 8 from rfl, Nat.testBit_two_pow, Nat.zero_testBit]
   by_cases c : 8 = i
   ·subst c
    simp [hf]
   ·simp [c]
  rw [this]
  rfl
theorem e0b {a b : Int} (ha : 0 ≤ a ∧ a < 256) (hb : 0 ≤ b ∧ b < 256) : Go.bits .or .i64 (wrap64 (wrap64 a * 256)) (wrap64 b) = 256 * a + b := by
 rw [w64 (x := a) (by omega) (by omega), w64 (x := b) (by omega) (by omega), w64 (x := a * 256) (by omega) (by omega)]
 rw [bits_join .i64 63 (by decide) (fun n h0 h1 => b8r h0 h1) 8 (a * 256) b (by omega) (by omega) (Int.lt_trans (by omega : a * 256 < 65536) (by decide)) hb.1 (by simpa using hb.2) (Int.lt_trans (by omega : b < 65536) (by decide))]
 omega
def a8c (p : Int) : Bool := decide (1 ≤ p ∧ p ≤ 65535 ∧ p % 2 = 1 ∧ p / 256 % 2 = 0 ∧ p ≠ 255)
theorem b0Z (p : Int) : a0z.f p = some (a8c p) := by
 unfold a0z.f a8c
 by_cases a : p ≥ 1
 ·rw [if_pos a]
  by_cases b : p ≤ 65535
  ·rw [if_pos b, e0a (by omega) (by omega)]
   by_cases c : p % 2 = 1
   ·rw [if_pos c]
    by_cases d : p / 256 % 2 = 0
    ·rw [if_pos ((c4T (by omega) (by omega)).2 d)]
     congr 1
     rw [Bool.eq_iff_iff, bne_iff_ne, decide_eq_true_iff]; exact ⟨fun h => ⟨a, b, c, d, h⟩, fun h => h.2.2.2.2⟩
    ·rw [if_neg (fun h => d ((c4T (by omega) (by omega)).1 h))]
     simp [d]
   ·rw [if_neg c]
    simp [c]
  ·rw [if_neg b]
   simp [b]
 ·rw [if_neg a]
  simp [a]
def b03 (p : Int) (full short : Bool) : List Int := (if full then [255, 3] else []) ++ (if short = true ∧ p < 256 then [p % 256] else [p / 256 % 256, p % 256])
theorem d22 (p : Int) (full short : Bool) : head_Put.f p full short = some (if a8c p then (b03 p full short, 0) else ([], 1)) := by
 unfold head_Put.f
 rw [b0Z]
 simp only [Option.bind_some]
 by_cases m : a8c p = true
 ·simp only [m, if_true]
  unfold b03
  cases full <;> cases short <;> simp
  all_goals (split <;> simp)
 ·simp only [m]
  simp
def a5E (rest : List Int) (at_ : Int) : Int × Int × Int :=
 match rest with
 | [] => (0, 0, 2)
 | a :: t => if a % 2 = 1 then (if a = 255 then (0, 0, 3) else (a, at_ + 1, 0)) else
  match t with
  | [] => (0, 0, 2)
  | b :: _ => if b % 2 = 0 ∨ (a = 0 ∧ b = 255) then (0, 0, 3) else (256 * a + b, at_ + 2, 0)
def a3J (l : List Int) : Int × Int × Int :=
 match l with
 | [] => (0, 0, 2)
 | a :: t => if a = 255 then (match t with | [] => (0, 0, 2) | b :: r => if b = 3 then a5E r 2 else (0, 0, 3)) else a5E (a :: t) 0
theorem rd0 (a : Int) (t : List Int) : rd (a :: t) 0 = a := rfl
theorem rd1 (a b : Int) (t : List Int) : rd (a :: b :: t) 1 = b := rfl
theorem d4Y {a : Int} (h : 0 ≤ a ∧ a < 256) (o : a % 2 = 1) : a8c a = decide (a ≠ 255) := by
 unfold a8c
 rw [Bool.eq_iff_iff, decide_eq_true_iff, decide_eq_true_iff]
 omega
theorem e0c {a b : Int} (ha : 0 ≤ a ∧ a < 256) (hb : 0 ≤ b ∧ b < 256) (e : a % 2 ≠ 1) : a8c (256 * a + b) = decide (¬ (b % 2 = 0 ∨ (a = 0 ∧ b = 255))) := by
 unfold a8c
 rw [Bool.eq_iff_iff, decide_eq_true_iff, decide_eq_true_iff]
 omega
theorem e0d (at_ : Int) (h0 : 0 ≤ at_) (h1 : at_ ≤ 2) (a : Int) (t : List Int) (hb : Bytes (a :: t)) : Ev (fun k => head_Read.j0 k at_ (a :: t) (decide (a % 2 = 1 ∧ a ≠ 255))) (a5E (a :: t) at_) := by
 have ha := hb a (by simp)
 refine Ev.step (f := fun _ => some (a5E (a :: t) at_)) (fun k => ?_) (Ev.now _)
 rw [head_Read.j0]
 unfold a5E
 by_cases o : a % 2 = 1
 ·by_cases f : a = 255
  ·subst f
   simp [rd0, c7a]
  ·rw [if_pos (by simpa using ⟨o, f⟩), if_pos (by simp <;> omega), rd0, w64 (by omega) (by omega), w64 (by omega) (by omega)]
   simp [o, f]
 ·rw [if_neg (by simp [o]), if_pos (by simp <;> omega), rd0, c7a ha.1 ha.2, if_neg o]
  cases t with
  | nil => simp [o]
  | cons b r =>
   have hbb := hb b (by simp); rw [if_neg (by simp <;> omega), if_pos (by simp <;> omega), rd1, e0b ha hbb, b0Z, e0c ha hbb o]
   simp only [Option.bind_some]
   by_cases c : b % 2 = 0 ∨ (a = 0 ∧ b = 255)
   ·simp [c, o]
   ·simp only [c, o, not_false_eq_true, decide_true, if_true, if_false]
    rw [w64 (by omega) (by omega)]
theorem c7b (l : List Int) : a3p.f l = some (match l with | [] => (0, 2) | a :: t => if a = 255 then (match t with | [] => (0, 2) | b :: _ => if b = 3 then (2, 0) else (0, 3)) else (0, 0)) := by
 unfold a3p.f
 cases l with
 | nil => rfl
 | cons a t =>
  rw [if_neg (by simp <;> omega), if_pos (by simp <;> omega), rd0]
  by_cases c : a = 255
  ·rw [if_pos c]
   cases t with
   | nil => simp [c]
   | cons b r =>
    rw [if_neg (by simp <;> omega), if_pos (by simp <;> omega), rd1]
    by_cases d : b = 3 <;> simp [c, d]
  ·rw [if_neg c]
   simp [c]
theorem c0C (l rest : List Int) (at_ : Nat) (hr : l.drop at_ = rest) (hat : at_ ≤ 2) (hal : at_ ≤ l.length) (hb : Bytes rest)
  (hf : a3p.f l = some ((at_ : Int), 0)) : Ev (fun k => head_Read.f k l) (a5E rest at_) := by
 unfold head_Read.f
 rw [hf]
 simp only [Option.bind_some, if_true, show (0 : Int) ≤ (at_ : Int) by omega, show (at_ : Int) ≤ (l.length : Int) by omega, Int.toNat_natCast, hr]
 cases rest with
 | nil =>
  simp only [List.length_nil, show ((0 : Nat) : Int) = 0 from rfl, if_true]
  exact Ev.now _
 | cons a t =>
  have ha := hb a (by simp); have hj := e0d (at_ : Int) (by omega) (by omega) a t hb
  simp only [show ¬ (((a :: t).length : Int) = 0) by simp <;> omega, show (0 : Int) < ((a :: t).length : Int) by simp <;> omega, if_true, if_false, rd0, c7a ha.1 ha.2]
  by_cases o : a % 2 = 1
  ·simp only [o, if_true, w64 (x := a) (by omega) (by omega), b0Z, Option.bind_some, d4Y ha o]
   simp only [o, true_and] at hj
   exact hj
  ·simp only [o, if_false]
   simp only [o, false_and, decide_false] at hj
   exact hj
theorem c4V (l : List Int) (hb : Bytes l) : Ev (fun k => head_Read.f k l) (a3J l) := by
 have hf := c7b l
 have no : ∀ e : Int, e ≠ 0 → a3p.f l = some (0, e) → Ev (fun k => head_Read.f k l) (0, 0, e) := by
  intro e he h; unfold head_Read.f; rw [h]
  simp only [Option.bind_some, he, if_false]
  exact Ev.now _
 cases l with
 | nil => exact no 2 (by decide) hf
 | cons a t =>
  unfold a3J
  by_cases c : a = 255
  ·simp only [c, if_true] at hf ⊢
   cases t with
   | nil => subst c; exact no 2 (by decide) hf
   | cons b r =>
    by_cases d : b = 3
    ·simp only [d, if_true] at hf ⊢
     subst c d; exact c0C _ r 2 rfl (by decide) (by simp) (fun x hx => hb x (by simp [hx])) hf
    ·simp only [d, if_false] at hf ⊢
     subst c; exact no 3 (by decide) hf
  ·simp only [c, if_false] at hf ⊢
   exact c0C _ (a :: t) 0 rfl (by decide) (by simp) hb hf
def b1s (l : List Int) : Int × List Int × Int := if (a3J l).2.2 = 0 then ((a3J l).1, l.drop (a3J l).2.1.toNat, 0) else (0, [], (a3J l).2.2)
theorem d23 (l : List Int) (hb : Bytes l) (hl : l.length < 140737488355328) : Ev (fun k => a1M.f k l) (b1s l) := by
 unfold a1M.f b1s
 refine Ev.bind (c4V l hb) ?_
 by_cases c : (a3J l).2.2 = 0
 ·simp only [c, if_true, c4S l _ hl, Option.bind_some]
  exact Ev.now _
 ·simp only [c, if_false]
  exact Ev.now _
theorem b8s (r : List Int) (at_ : Int) (h : (a5E r at_).2.2 = 0) : (a5E r at_).2.1 ≤ at_ + r.length ∧ at_ + 1 ≤ (a5E r at_).2.1 := by
 unfold a5E at h ⊢
 cases r with
 | nil => simp at h
 | cons a t =>
  by_cases o : a % 2 = 1
  ·by_cases f : a = 255
   ·simp [f] at h
   ·simp [o, f]
    omega
  ·simp only [o, if_false] at h ⊢
   cases t with
   | nil => simp at h
   | cons b s =>
    by_cases c : b % 2 = 0 ∨ (a = 0 ∧ b = 255)
    ·simp [c] at h
    ·simp [c]
     omega
theorem d4Z (l : List Int) (h : (a3J l).2.2 = 0) : (a3J l).2.1 ≤ l.length ∧ 1 ≤ (a3J l).2.1 := by
 unfold a3J at h ⊢
 cases l with
 | nil => simp at h
 | cons a t =>
  by_cases c : a = 255
  ·simp only [c, if_true] at h ⊢
   cases t with
   | nil => simp at h
   | cons b r =>
    by_cases d : b = 3
    ·simp only [d, if_true] at h ⊢
     have := b8s r 2 h
     simp only [List.length_cons]
     omega
    ·simp [d] at h
  ·simp only [c, if_false] at h ⊢
   have := b8s (a :: t) 0 h
   omega
def a6d (m c : Int) : Bool := decide (c < 32) && m.toNat.testBit c.toNat
theorem toNat_div (m : Int) (h : 0 ≤ m) (j : Nat) : (m / 2 ^ j) = ((m.toNat / 2 ^ j : Nat) : Int) := by
 obtain ⟨n, rfl⟩ := Int.eq_ofNat_of_zero_le h
 simp
theorem d40 (m : Int) (h : 0 ≤ m) (j : Nat) : ((m / 2 ^ j) % 2 == 1) = m.toNat.testBit j := by
 rw [Nat.testBit_eq_decide_div_mod_eq, toNat_div m h]
 rw [Bool.eq_iff_iff, beq_iff_eq, decide_eq_true_iff]
 omega
theorem b42 (m c : Int) (h0 : 0 ≤ m) (h1 : m < 4294967296) (hc : 0 ≤ c) : a4E.f m c = some (a6d m c) := by
 unfold a4E.f a6d
 by_cases a : c < 32
 ·rw [if_pos a, if_pos hc]; have hs : shr .u32 m c = m / 2 ^ c.toNat := by
   unfold shr; rw [Nat.min_eq_left (by simp [IntKind.bits]; omega)]
  have hq0 : 0 ≤ m / 2 ^ c.toNat := Int.ediv_nonneg h0 (Int.le_of_lt (Int.pow_pos (by decide))); have hq1 : m / 2 ^ c.toNat ≤ m := Int.ediv_le_self _ h0; rw [hs, c9w hq0 (by omega), d40 m h0]
  simp [a]
 ·rw [if_neg a]
  simp [a]
def b43 (c : Int) : Int := Go.bits .xor .u8 c 32
theorem d24 (n : Nat) (h : n < 256) : b43 (n : Int) = ((n ^^^ 32 : Nat) : Int) := by
 have h1 : n ^^^ 32 < 2 ^ 8 := Nat.xor_lt_two_pow (by simpa using h) (by decide)
 have e2 : (BitVec.ofNat 8 n ^^^ 32#8).toNat = n ^^^ 32 := by
  rw [BitVec.toNat_xor, BitVec.toNat_ofNat, Nat.mod_eq_of_lt (show n < 2 ^ 8 by simpa using h)]
  rfl
 have e3 := wraps_u8 (((n ^^^ 32 : Nat) : Int)) (by omega) (by exact_mod_cast h1)
 rw [← e2] at e3
 rw [← e2]
 exact e3
theorem c4W {c : Int} (h : 0 ≤ c ∧ c < 256) : 0 ≤ b43 c ∧ b43 c < 256 := by
 obtain ⟨n, rfl⟩ := Int.eq_ofNat_of_zero_le h.1
 have h1 : n ^^^ 32 < 2 ^ 8 := Nat.xor_lt_two_pow (by omega) (by decide)
 rw [d24 n (by omega)]
 omega
def b1A (m : Int) : List Int → Bool → List Int → List Int × Bool
 | [], b, acc => if b then ([], false) else (acc, true)
 | c :: t, b, acc => if c = 126 then ([], false) else if a6d m c = true then b1A m t b acc else if b then b1A m t false (acc ++ [b43 c]) else if c = 125 then b1A m t true acc else b1A m t b (acc ++ [c])
def Y0 (l : List Int) (m : Int) : List Int × Bool := b1A m l false []
theorem d25 (m : Int) (h0 : 0 ≤ m) (h1 : m < 4294967296) (l : List Int) (hb : Bytes l) (hl : l.length < 70368744177664) (d : Nat) : ∀ (i : Nat) (b : Bool) (acc : List Int), l.length - i = d → i ≤ l.length → acc.length ≤ i →
  Ev (fun k => V6.l0 k m acc b l (l.length : Int) (i : Int)) (b1A m (l.drop i) b acc) := by
 induction d with
 | zero =>
  intro i b acc hd hi ha; refine Ev.step (f := fun _ => some (b1A m (l.drop i) b acc)) (fun k => ?_) (Ev.now _); rw [V6.l0, if_neg (by omega), List.drop_of_length_le (by omega)]; unfold b1A
  cases b <;> simp
 | succ d ih =>
  intro i b acc hd hi ha; have hil : i < l.length := by omega
  have hc := hb _ (List.getElem_mem hil); rw [List.drop_eq_getElem_cons hil]; unfold b1A
  by_cases e1 : l[i] = 126
  ·refine Ev.step (f := fun _ => some (([] : List Int), false)) (fun k => ?_) ?_
   ·rw [V6.l0, if_pos (by omega), if_pos (by omega), if_pos (by omega), a1V i hil, if_pos e1]
   ·rw [if_pos e1]; exact Ev.now _
  ·rw [if_neg e1]
   by_cases e2 : a6d m l[i] = true
   ·rw [if_pos e2]; refine Ev.step (fun k => ?_) (ih (i + 1) b acc (by omega) (by omega) (by omega)); rw [V6.l0, if_pos (by omega), if_pos (by omega), if_pos (by omega), a1V i hil, if_neg e1, b42 m _ h0 h1 hc.1]
    simp only [Option.bind_some, e2, if_true]
    rw [w64 (by omega) (by omega)]
    rfl
   ·rw [if_neg e2]
    by_cases e3 : b = true
    ·rw [if_pos e3]; refine Ev.step (fun k => ?_) (ih (i + 1) false (acc ++ [b43 l[i]]) (by omega) (by omega) (by simp; omega)); rw [V6.l0, if_pos (by omega), if_pos (by omega), if_pos (by omega), a1V i hil, if_neg e1, b42 m _ h0 h1 hc.1]
     simp only [Option.bind_some, e2, e3, Bool.false_eq_true, if_true, if_false]
     rw [if_pos (by omega), w64 (by omega) (by omega)]
     rfl
    ·rw [if_neg e3]
     by_cases e4 : l[i] = 125
     ·rw [if_pos e4]; refine Ev.step (fun k => ?_) (ih (i + 1) true acc (by omega) (by omega) (by omega)); rw [V6.l0, if_pos (by omega), if_pos (by omega), if_pos (by omega), a1V i hil, if_neg e1, b42 m _ h0 h1 hc.1]
      simp only [Option.bind_some, e2, e3, e4, Bool.false_eq_true, if_true, if_false]
      rw [w64 (by omega) (by omega)]
      rfl
     ·rw [if_neg e4]; refine Ev.step (fun k => ?_) (ih (i + 1) b (acc ++ [l[i]]) (by omega) (by omega) (by simp; omega)); rw [V6.l0, if_pos (by omega), if_pos (by omega), if_pos (by omega), a1V i hil, if_neg e1, b42 m _ h0 h1 hc.1]
      simp only [Option.bind_some, e2, e3, e4, Bool.false_eq_true, if_true, if_false]
      rw [if_pos (by omega), w64 (by omega) (by omega)]
      rfl
theorem c1M (l : List Int) (m : Int) (hb : Bytes l) (h0 : 0 ≤ m) (h1 : m < 4294967296) (hl : l.length < 70368744177664) : Ev (fun k => V6.f k l m) (Y0 l m) := by
 have := d25 m h0 h1 l hb hl l.length 0 false [] (by omega) (by omega) (by simp)
 exact this
theorem d26 (m : Int) (h0 : 0 ≤ m) (h1 : m < 4294967296) (c : Nat) (hc : c < 32) (d : Nat) : ∀ i : Nat, c - i = d → i ≤ c →
  Ev (fun k => W9.l0 k (m / 2 ^ i) (c : Int) (i : Int)) (m.toNat.testBit c) := by
 induction d with
 | zero =>
  intro i hd hi; obtain rfl : i = c := by omega
  have hq0 : 0 ≤ m / 2 ^ i := Int.ediv_nonneg h0 (Int.le_of_lt (Int.pow_pos (by decide))); refine Ev.step (f := fun _ => some (m.toNat.testBit i)) (fun k => ?_) (Ev.now _); rw [W9.l0, if_neg (by omega), Int.tmod_eq_emod_of_nonneg hq0, d40 m h0]
 | succ d ih =>
  intro i hd hi; have hq0 : 0 ≤ m / 2 ^ i := Int.ediv_nonneg h0 (Int.le_of_lt (Int.pow_pos (by decide))); have hq1 : m / 2 ^ i ≤ m := Int.ediv_le_self _ h0; refine Ev.step (f := fun k => W9.l0 k (m / 2 ^ (i + 1)) (c : Int) ((i + 1 : Nat) : Int)) (fun k => ?_) (ih (i + 1) (by omega) (by omega)); rw [W9.l0, if_pos (by omega), Int.tdiv_eq_ediv_of_nonneg hq0, Int.emod_eq_of_lt (by omega) (by omega), Int.ediv_ediv_of_nonneg (Int.le_of_lt (Int.pow_pos (by decide))), ← Int.pow_succ, show ((i : Int) + 1) % 256 = ((i + 1 : Nat) : Int) by omega]
theorem d27 (m c : Int) (h0 : 0 ≤ m) (h1 : m < 4294967296) (hc : 0 ≤ c) : Ev (fun k => W9.f k m c) (a6d m c) := by
 unfold W9.f a6d
 by_cases a : c > 31
 ·simp only [a, if_true]
  rw [show decide (c < 32) = false by simp; omega]; exact Ev.now _
 ·simp only [a, if_false]
  rw [show decide (c < 32) = true by simp; omega]; have := d26 m h0 h1 c.toNat (by omega) c.toNat 0 (by omega) (by omega); rw [show ((c.toNat : Nat) : Int) = c by omega] at this
  simpa using this
theorem d28 (m : Int) (h0 : 0 ≤ m) (h1 : m < 4294967296) (l : List Int) (hb : Bytes l) (hl : l.length < 70368744177664) (d : Nat) : ∀ (i : Nat), l.length - i = d → i ≤ l.length →
  Ev (fun k => L8.l0 k l m ((l.take i).filter fun c => !a6d m c) (i : Int)) (l.filter fun c => !a6d m c) := by
 induction d with
 | zero =>
  intro i hd hi; refine Ev.step (f := fun _ => some (l.filter fun c => !a6d m c)) (fun k => ?_) (Ev.now _); rw [L8.l0, if_neg (by omega), List.take_of_length_le (by omega)]
 | succ d ih =>
  intro i hd hi; have hil : i < l.length := by omega
  have hc := hb _ (List.getElem_mem hil); have hlen := List.length_filter_le (fun c => !a6d m c) (l.take i); rw [List.length_take] at hlen; refine Ev.step (fun k => by rw [L8.l0, if_pos (by omega), if_pos (by omega), a1V i hil]) (Ev.bind (d27 m l[i] h0 h1 hc.1) ?_); have next := ih (i + 1) (by omega) (by omega); rw [List.take_succ_eq_append_getElem hil, List.filter_append] at next; have hw : ∀ x : Int, x = (i : Int) → wrap64 (x + 1) = ((i + 1 : Nat) : Int) := by
   intro x hx; rw [w64 (by omega) (by omega)]
   omega
  by_cases e : a6d m l[i] = true
  ·simp only [e, if_true, List.filter_cons, Bool.not_true, Bool.false_eq_true, if_false, List.filter_nil, List.append_nil, hw _ rfl] at next ⊢
   exact next
  ·have e' : a6d m l[i] = false := by simpa using e
   simp only [e', Bool.false_eq_true, if_false, List.filter_cons, Bool.not_false, if_true, List.filter_nil, hw _ rfl, show ((l.take i).filter fun c => !a6d m c).length < 140737488355328 by omega] at next ⊢
   exact next
theorem c0D (l : List Int) (m : Int) (hb : Bytes l) (h0 : 0 ≤ m) (h1 : m < 4294967296) (hl : l.length < 70368744177664) : Ev (fun k => L8.f k l m) (l.filter fun c => !a6d m c) := by
 have := d28 m h0 h1 l hb hl l.length 0 (by omega) (by omega)
 exact this
def a6t : List Int → List Int → List Int × Bool
 | [], acc => (acc, true)
 | c :: t, acc => if c = 126 then ([], false) else if c = 125 then (match t with | [] => ([], false) | d :: t' => if d = 126 then ([], false) else a6t t' (acc ++ [b43 d])) else a6t t (acc ++ [c])
theorem a5r (c : Int) (t acc : List Int) : a6t (c :: t) acc = if c = 126 then ([], false) else if c = 125 then (match t with | [] => ([], false) | d :: t' => if d = 126 then ([], false) else a6t t' (acc ++ [b43 d])) else a6t t (acc ++ [c]) := by
 conv => lhs; rw [a6t.eq_def]
theorem c7c (l : List Int) (hl : l.length < 70368744177664) (n : Nat) : ∀ (i : Nat) (acc : List Int), l.length - i ≤ n → i ≤ l.length → acc.length ≤ i →
  Ev (fun k => C9.l0 k l acc (i : Int)) (a6t (l.drop i) acc) := by
 induction n with
 | zero =>
  intro i acc hd hi ha; refine Ev.step (f := fun _ => some (a6t (l.drop i) acc)) (fun k => ?_) (Ev.now _); rw [C9.l0, if_neg (by omega), List.drop_of_length_le (by omega)]; rw [a6t]
 | succ n ih =>
  intro i acc hd hi ha
  rcases Nat.lt_or_ge i l.length with hil | hil
  ·have hd1 : l.drop i = l[i] :: l.drop (i + 1) := List.drop_eq_getElem_cons hil; have no : ∀ b : Bool, b = true → Ev (fun k => C9.j1 k l acc (i : Int) b) (([] : List Int), false) := by
    intro b hb; refine Ev.step (f := fun _ => some (([] : List Int), false)) (fun k => ?_) (Ev.now _); rw [C9.j1, if_pos hb]
   rw [hd1]
   by_cases e1 : l[i] = 126
   ·rw [a5r, if_pos e1]; refine Ev.step (fun k => ?_) (no true rfl); rw [C9.l0, if_pos (by omega), if_pos (by omega), a1V i hil, if_pos e1]
   ·by_cases e2 : l[i] = 125
    ·rcases Nat.lt_or_ge (i + 1) l.length with hi2 | hi2
     ·have hd2 : l.drop (i + 1) = l[i + 1] :: l.drop (i + 2) := List.drop_eq_getElem_cons hi2; rw [a5r, if_neg e1, if_pos e2, hd2]
      dsimp only
      by_cases e3 : l[i + 1] = 126
      ·rw [if_pos e3]; refine Ev.step (fun k => ?_) (no (l[i + 1] == 126) (by simpa using e3)); rw [C9.l0, if_pos (by omega), if_pos (by omega), a1V i hil, if_neg e1, if_pos e2, w64 (by omega) (by omega), if_neg (by omega), if_pos (by omega), if_pos (by omega), show ((i : Int) + 1) = ((i + 1 : Nat) : Int) by omega, a1V (i + 1) hi2]
      ·rw [if_neg e3]; refine Ev.step (f := fun k => C9.j1 k l acc (i : Int) (l[i + 1] == 126)) (fun k => ?_) (Ev.step (fun k => ?_) (ih (i + 2) (acc ++ [b43 l[i + 1]]) (by omega) (by omega) (by simp; omega)))
       ·rw [C9.l0, if_pos (by omega), if_pos (by omega), a1V i hil, if_neg e1, if_pos e2, w64 (by omega) (by omega), if_neg (by omega), if_pos (by omega), if_pos (by omega), show ((i : Int) + 1) = ((i + 1 : Nat) : Int) by omega, a1V (i + 1) hi2]
       ·rw [C9.j1, if_neg (by simpa using e3), if_pos (by omega), if_pos (by omega), a1V i hil, if_pos e2, w64 (x := (i : Int) + 1) (by omega) (by omega), if_pos (by omega), if_pos (by omega), if_pos (by omega), show ((i : Int) + 1) = ((i + 1 : Nat) : Int) by omega, a1V (i + 1) hi2, w64 (by omega) (by omega)]
        rfl
     ·rw [List.drop_of_length_le (by omega : l.length ≤ i + 1), a5r, if_neg e1, if_pos e2]; refine Ev.step (fun k => ?_) (no true rfl); rw [C9.l0, if_pos (by omega), if_pos (by omega), a1V i hil, if_neg e1, if_pos e2, w64 (by omega) (by omega), if_pos (by omega)]
    ·rw [a5r, if_neg e1, if_neg e2]; refine Ev.step (f := fun k => C9.j1 k l acc (i : Int) false) (fun k => ?_) (Ev.step (fun k => ?_) (ih (i + 1) (acc ++ [l[i]]) (by omega) (by omega) (by simp; omega)))
     ·rw [C9.l0, if_pos (by omega), if_pos (by omega), a1V i hil, if_neg e1, if_neg e2]
     ·rw [C9.j1, if_neg (by decide), if_pos (by omega), if_pos (by omega), a1V i hil, if_neg e2, if_pos (by omega), w64 (by omega) (by omega)]
      rfl
  ·refine Ev.step (f := fun _ => some (a6t (l.drop i) acc)) (fun k => ?_) (Ev.now _); rw [C9.l0, if_neg (by omega), List.drop_of_length_le (by omega)]; rw [a6t]
theorem c0E (m c : Int) (h : 32 ≤ c) : a6d m c = false := by
 unfold a6d
 rw [show decide (c < 32) = false by apply decide_eq_false; omega]
 rfl
theorem b4d (m : Int) (l : List Int) : (∀ acc, b1A m l false acc = a6t (l.filter fun c => !a6d m c) acc) ∧
  (∀ acc, b1A m l true acc = match (l.filter fun c => !a6d m c) with | [] => ([], false) | d :: t => if d = 126 then ([], false) else a6t t (acc ++ [b43 d])) := by
 induction l with
 | nil => exact ⟨fun acc => by simp [b1A, a6t], fun acc => by simp [b1A]⟩
 | cons c t ih =>
  constructor
  ·intro acc; unfold b1A
   by_cases e1 : c = 126
   ·have := c0E m c (by omega); rw [if_pos e1, List.filter_cons, this]
    simp only [Bool.not_false, if_true]
    rw [a5r, if_pos e1]
   ·rw [if_neg e1]
    by_cases e2 : a6d m c = true
    ·rw [if_pos e2, List.filter_cons, e2]
     simp only [Bool.not_true, Bool.false_eq_true, if_false]
     exact ih.1 acc
    ·have e2' : a6d m c = false := by simpa using e2
     rw [if_neg e2, List.filter_cons, e2']
     simp only [Bool.not_false, if_true, Bool.false_eq_true, if_false]
     by_cases e3 : c = 125
     ·rw [if_pos e3, a5r, if_neg e1, if_pos e3, ih.2 acc]
     ·rw [if_neg e3, a5r, if_neg e1, if_neg e3, ih.1]
  ·intro acc; unfold b1A
   by_cases e1 : c = 126
   ·have := c0E m c (by omega); rw [if_pos e1, List.filter_cons, this]
    simp only [Bool.not_false, if_true, e1]
   ·rw [if_neg e1]
    by_cases e2 : a6d m c = true
    ·rw [if_pos e2, List.filter_cons, e2]
     simp only [Bool.not_true, Bool.false_eq_true, if_false]
     exact ih.2 acc
    ·have e2' : a6d m c = false := by simpa using e2
     rw [if_neg e2, List.filter_cons, e2']
     simp only [Bool.not_false, if_true, e1, if_false]
     exact ih.1 _
theorem b95 (l : List Int) (m : Int) (hb : Bytes l) (h0 : 0 ≤ m) (h1 : m < 4294967296) (hl : l.length < 70368744177664) : Ev (fun k => C9.f k l m) (Y0 l m) := by
 unfold C9.f
 refine Ev.bind (c0D l m hb h0 h1 hl) ?_
 have hlen := List.length_filter_le (fun c => !a6d m c) l
 have := c7c (l.filter fun c => !a6d m c) (by omega) _ 0 [] (Nat.le_refl _) (by omega) (by simp)
 rw [List.drop_zero] at this
 unfold Y0
 rw [(b4d m l).1 []]
 exact this
def S (p n : Nat) : Nat := if n % 2 = 1 then (n / 2) ^^^ p else n / 2
def Sn (p : Nat) : Nat → Nat → Nat
 | 0, n => n
 | k + 1, n => S p (Sn p k n)
theorem d41 (a b : Nat) : (a ^^^ b) / 2 = (a / 2) ^^^ (b / 2) := by
 apply Nat.eq_of_testBit_eq
 intro i
 simp [Nat.testBit_xor, ← Nat.testBit_succ]
theorem e0e (a b : Nat) : ((a ^^^ b) % 2 = 1) ↔ ¬ ((a % 2 = 1) ↔ (b % 2 = 1)) := by
 have h : ∀ n : Nat, (n % 2 = 1) ↔ n.testBit 0 = true := fun n => by simp [Nat.testBit_zero]
 rw [h, h, h, Nat.testBit_xor]
 cases a.testBit 0 <;> cases b.testBit 0 <;> simp
theorem f1N (p a b : Nat) : S p (a ^^^ b) = S p a ^^^ S p b := by
 unfold S
 have h := e0e a b
 rw [d41]
 by_cases ha : a % 2 = 1 <;> by_cases hb : b % 2 = 1
 ·rw [if_neg (by rw [h]; simp [ha, hb]), if_pos ha, if_pos hb]; rw [Nat.xor_assoc, ← Nat.xor_assoc p, Nat.xor_comm p, Nat.xor_assoc (b / 2), Nat.xor_self, Nat.xor_zero]
 ·rw [if_pos (by rw [h]; simp [ha, hb]), if_pos ha, if_neg hb, Nat.xor_assoc, Nat.xor_assoc, Nat.xor_comm p]
 ·rw [if_pos (by rw [h]; simp [ha, hb]), if_neg ha, if_pos hb, Nat.xor_assoc]
 ·rw [if_neg (by rw [h]; simp [ha, hb]), if_neg ha, if_neg hb]
theorem c7d (p k a b : Nat) : Sn p k (a ^^^ b) = Sn p k a ^^^ Sn p k b := by
 induction k with
 | zero => rfl
 | succ k ih => rw [Sn, ih, f1N]; rfl
theorem d42 (p a b n : Nat) : Sn p (a + b) n = Sn p b (Sn p a n) := by
 induction b with
 | zero => rfl
 | succ b ih => rw [← Nat.add_assoc, Sn, ih]; rfl
theorem Sn_succ (p k n : Nat) : Sn p (k + 1) n = Sn p k (S p n) := by
 rw [Nat.add_comm, d42]
 rfl
theorem f1O (p n : Nat) : S p (n * 2) = n := by
 unfold S
 rw [if_neg (by omega)]
 omega
theorem c4X (p k n : Nat) : Sn p k (n * 2 ^ k) = n := by
 induction k generalizing n with
 | zero => simp [Sn]
 | succ k ih => rw [Sn, Nat.pow_succ, show n * (2 ^ k * 2) = n * 2 * 2 ^ k by rw [Nat.mul_comm (2 ^ k), Nat.mul_assoc], ih, f1O]
theorem b6i (n k : Nat) : (n % 2 ^ k) ^^^ (n / 2 ^ k * 2 ^ k) = n := by
 apply Nat.eq_of_testBit_eq
 intro i
 rw [Nat.testBit_xor, Nat.testBit_mod_two_pow, Nat.testBit_mul_two_pow]
 by_cases h : i < k
 ·simp [h, Nat.not_le.2 h]
 ·have h' : k ≤ i := by omega
  simp [h, h', Nat.testBit_div_two_pow, Nat.sub_add_cancel h', Nat.add_sub_cancel' h']
theorem c9z {a k : Nat} (b : Nat) (h : a < 2 ^ k) : a + b * 2 ^ k = a ^^^ (b * 2 ^ k) := by
 have := b6i (a + b * 2 ^ k) k
 rw [Nat.add_mul_mod_self_right, Nat.mod_eq_of_lt h, Nat.add_mul_div_right _ _ (Nat.two_pow_pos k), Nat.div_eq_of_lt h, Nat.zero_add] at this
 exact this.symm
def leN : List Int → Nat
 | [] => 0
 | c :: l => c.toNat ^^^ (leN l * 256)
def c7e (p r : Nat) (c : Int) : Nat := (r / 256) ^^^ Sn p 8 ((r % 256) ^^^ c.toNat)
theorem b7l (p r : Nat) (c : Int) : c7e p r c = Sn p 8 (r ^^^ c.toNat) := by
 have h := b6i r 8
 conv => rhs; rw [← h]
 rw [show (r % 2 ^ 8 ^^^ r / 2 ^ 8 * 2 ^ 8 ^^^ c.toNat) = ((r % 2 ^ 8 ^^^ c.toNat) ^^^ r / 2 ^ 8 * 2 ^ 8) by rw [Nat.xor_assoc, Nat.xor_comm (r / 2 ^ 8 * 2 ^ 8), Nat.xor_assoc], c7d, c4X, Nat.xor_comm]
 rfl
def a4F (p r : Nat) (l : List Int) : Nat := l.foldl (c7e p) r
theorem b8t (p r : Nat) (c : Int) (l : List Int) : a4F p r (c :: l) = a4F p (c7e p r c) l := rfl
theorem c1N (p r : Nat) (a b : List Int) : a4F p r (a ++ b) = a4F p (a4F p r a) b := by simp [a4F]
theorem d43 (p r : Nat) (l : List Int) : a4F p r l = Sn p (8 * l.length) (r ^^^ leN l) := by
 induction l generalizing r with
 | nil => simp [a4F, leN, Sn]
 | cons c l ih =>
  rw [b8t, ih, b7l, List.length_cons, show 8 * (l.length + 1) = 8 + 8 * l.length by omega, d42, leN, ← Nat.xor_assoc, c7d p 8 (r ^^^ c.toNat), show (256 : Nat) = 2 ^ 8 from rfl, c4X]
theorem b6L {a b : Nat} (h : a ^^^ b = 0) : a = b := by
 have h1 : (a ^^^ b) ^^^ b = b := by rw [h, Nat.zero_xor]
 rwa [Nat.xor_assoc, Nat.xor_self, Nat.xor_zero] at h1
theorem b93 {p b n : Nat} (hp : p < 2 ^ b) (hn : n < 2 ^ b) : S p n < 2 ^ b := by
 unfold S
 split
 ·exact Nat.xor_lt_two_pow (by omega) hp
 ·omega
theorem c9A {p b n : Nat} (k : Nat) (hp : p < 2 ^ b) (hn : n < 2 ^ b) : Sn p k n < 2 ^ b := by
 induction k with
 | zero => exact hn
 | succ k ih => exact b93 hp ih
theorem c1O {p b r : Nat} {c : Int} (hb : 8 ≤ b) (hp : p < 2 ^ b) (hr : r < 2 ^ b) (hc : 0 ≤ c ∧ c < 256) : c7e p r c < 2 ^ b := by
 rw [b7l]
 have : 2 ^ 8 ≤ 2 ^ b := Nat.pow_le_pow_right (by decide) hb
 exact c9A 8 hp (Nat.xor_lt_two_pow hr (by omega))
theorem d44 {p b r : Nat} {l : List Int} (hb : 8 ≤ b) (hp : p < 2 ^ b) (hr : r < 2 ^ b) (hl : Bytes l) : a4F p r l < 2 ^ b := by
 induction l generalizing r with
 | nil => exact hr
 | cons c l ih => exact ih (c1O hb hp hr (hl c (by simp))) (fun x hx => hl x (by simp [hx]))
theorem e7u {p b n : Nat} (hp : 2 ^ (b - 1) ≤ p) (hb : 1 ≤ b) (hn : n < 2 ^ b) (h : S p n = 0) : n = 0 := by
 obtain ⟨c, rfl⟩ : ∃ c, b = c + 1 := ⟨b - 1, by omega⟩
 rw [Nat.add_sub_cancel] at hp
 rw [Nat.pow_succ] at hn
 unfold S at h
 split at h
 ·have := b6L h
  omega
 ·omega
theorem e0f {p b n : Nat} (k : Nat) (hp : 2 ^ (b - 1) ≤ p) (hp1 : p < 2 ^ b) (hb : 1 ≤ b) (hn : n < 2 ^ b) (h : Sn p k n = 0) : n = 0 := by
 induction k with
 | zero => exact h
 | succ k ih => exact ih (e7u hp hb (c9A k hp1 hn) h)
theorem e7v {p b m n : Nat} (k : Nat) (hp : 2 ^ (b - 1) ≤ p) (hp1 : p < 2 ^ b) (hb : 1 ≤ b) (hm : m < 2 ^ b) (hn : n < 2 ^ b) (h : Sn p k m = Sn p k n) : m = n := by
 have h1 : Sn p k (m ^^^ n) = 0 := by rw [c7d, h, Nat.xor_self]
 exact b6L (e0f k hp hp1 hb (Nat.xor_lt_two_pow hm hn) h1)
theorem e7w {l : List Int} (h : Bytes l) : leN l < 2 ^ (8 * l.length) := by
 induction l with
 | nil => simp [leN]
 | cons c l ih =>
  have hc := h c (by simp); have hl := ih (fun x hx => h x (by simp [hx])); rw [leN, List.length_cons, show (256 : Nat) = 2 ^ 8 from rfl, ← c9z _ (by omega), show 8 * (l.length + 1) = 8 * l.length + 8 by omega, Nat.pow_add]
  omega
theorem e0g (n s : Nat) (h : n < 256 ^ s) : leN (leb (n : Int) s) = n := by
 induction s generalizing n with
 | zero => simp at h; subst h; rfl
 | succ s ih =>
  rw [Nat.pow_succ] at h; rw [leb, leN, show ((n : Int) / 256) = ((n / 256 : Nat) : Int) by omega, ih (n / 256) (by omega), show ((n : Int) % 256).toNat = n % 2 ^ 8 by omega]; exact b6i n 8
theorem e0h {l : List Int} (h : Bytes l) : leb (leN l : Int) l.length = l := by
 induction l with
 | nil => rfl
 | cons c l ih =>
  have hc := h c (by simp); have hl := ih (fun x hx => h x (by simp [hx])); have e : leN (c :: l) = c.toNat + leN l * 256 := by
   rw [leN, show (256 : Nat) = 2 ^ 8 from rfl, ← c9z _ (by omega)]
  rw [e, List.length_cons, leb, show (((c.toNat + leN l * 256 : Nat) : Int) % 256) = c by omega, show (((c.toNat + leN l * 256 : Nat) : Int) / 256) = (leN l : Int) by omega, hl]
theorem d45 {b m : Nat} (h : m < 2 ^ b) : (2 ^ b - 1) - m = m ^^^ (2 ^ b - 1) := by
 rw [show 2 ^ b - 1 - m = 2 ^ b - (m + 1) by omega]
 apply Nat.eq_of_testBit_eq
 intro i
 rw [Nat.testBit_two_pow_sub_succ h, Nat.testBit_xor, Nat.testBit_two_pow_sub_one]
 by_cases hi : i < b
 ·simp [hi]
 ·rw [Nat.testBit_lt_two_pow (Nat.lt_of_lt_of_le h (Nat.pow_le_pow_right (by decide) (by omega)))]
  simp [hi]
def byN (wide : Bool) : Nat := if wide = true then 3988292384 else 33800
def wid (wide : Bool) : Nat := if wide = true then 32 else 16
def a7J (wide : Bool) : Nat := 2 ^ wid wide - 1
def d46 (wide : Bool) : Nat := if wide = true then 3736805603 else 61624
def a2p (wide : Bool) : Nat := if wide = true then 4 else 2
theorem d47 (wide : Bool) : byN wide < 2 ^ wid wide := by cases wide <;> decide
theorem e7x (wide : Bool) : 2 ^ (wid wide - 1) ≤ byN wide := by cases wide <;> decide
theorem d48 (wide : Bool) : 8 ≤ wid wide := by cases wide <;> decide
theorem e7y (wide : Bool) : wid wide ≤ 32 := by cases wide <;> decide
theorem c4Y (wide : Bool) : wid wide = 8 * a2p wide := by cases wide <;> rfl
theorem b2X (wide : Bool) : a7J wide < 2 ^ wid wide := by cases wide <;> decide
theorem e0i (wide : Bool) : Sn (byN wide) (wid wide) (a7J wide) = d46 wide := by cases wide <;> decide +kernel
def ofN (l : List Int) (wide : Bool) : Nat := a4F (byN wide) (a7J wide) l ^^^ a7J wide
theorem c1P (l : List Int) (wide : Bool) (r : Nat) (hr : r < 2 ^ wid wide) (h : Bytes l) : a4F (byN wide) r l < 2 ^ wid wide := d44 (d48 wide) (d47 wide) hr h
theorem of_lt (l : List Int) (wide : Bool) (h : Bytes l) : ofN l wide < 2 ^ wid wide := Nat.xor_lt_two_pow (c1P l wide _ (b2X wide) h) (b2X wide)
theorem c7f (wide : Bool) : 256 ^ a2p wide = 2 ^ wid wide := by cases wide <;> decide
theorem d49 (x s : List Int) (wide : Bool) (hx : Bytes x) (hs : Bytes s) (hl : s.length = a2p wide) : a4F (byN wide) (a7J wide) (x ++ s) = d46 wide ↔ s = leb (ofN x wide : Int) (a2p wide) := by
 have h1 : a4F (byN wide) (a7J wide) (x ++ s) = Sn (byN wide) (wid wide) (a4F (byN wide) (a7J wide) x ^^^ leN s) := by
  rw [c1N, d43 _ _ s, hl, ← c4Y]
 have hm := c1P x wide _ (b2X wide) hx
 have hn : leN s < 2 ^ wid wide := by
  have := e7w hs
  rwa [hl, ← c4Y] at this
 rw [h1, ← e0i]
 constructor
 ·intro h; have e := e7v (wid wide) (e7x wide) (d47 wide) (by have := d48 wide; omega) (Nat.xor_lt_two_pow hm hn) (b2X wide) h; have e2 : leN s = ofN x wide := by
   unfold ofN
   conv => rhs; rhs; rw [← e]
   rw [← Nat.xor_assoc, Nat.xor_self, Nat.zero_xor]
  rw [← e2, ← hl, e0h hs]
 ·intro h; have e2 : leN s = ofN x wide := by
   rw [h, e0g _ _ (by rw [c7f]; exact of_lt x wide hx)]
  rw [e2]; unfold ofN; rw [← Nat.xor_assoc, Nat.xor_self, Nat.zero_xor]
theorem a8r {a b : Nat} (ha : a < 4294967296) (hb : b < 4294967296) : Go.bits .xor .u32 (a : Int) (b : Int) = ((a ^^^ b : Nat) : Int) := by
 have h1 : a ^^^ b < 2 ^ 32 := Nat.xor_lt_two_pow (by omega) (by omega)
 have e2 : (BitVec.ofNat 32 a ^^^ BitVec.ofNat 32 b).toNat = a ^^^ b := by
  rw [BitVec.toNat_xor, BitVec.toNat_ofNat, BitVec.toNat_ofNat, Nat.mod_eq_of_lt (show a < 2 ^ 32 by omega), Nat.mod_eq_of_lt (show b < 2 ^ 32 by omega)]
 have e3 := d4V (x := ((a ^^^ b : Nat) : Int)) (by omega) (by omega)
 rw [← e2] at e3
 rw [← e2]
 exact e3
theorem c4Z {a b : Nat} (ha : a < 256) (hb : b < 256) : Go.bits .xor .u8 (a : Int) (b : Int) = ((a ^^^ b : Nat) : Int) := by
 have h1 : a ^^^ b < 2 ^ 8 := Nat.xor_lt_two_pow (by omega) (by omega)
 have e2 : (BitVec.ofNat 8 a ^^^ BitVec.ofNat 8 b).toNat = a ^^^ b := by
  rw [BitVec.toNat_xor, BitVec.toNat_ofNat, BitVec.toNat_ofNat, Nat.mod_eq_of_lt (by simpa using ha), Nat.mod_eq_of_lt (by simpa using hb)]
 have e3 := wraps_u8 (((a ^^^ b : Nat) : Int)) (by omega) (by omega)
 rw [← e2] at e3
 rw [← e2]
 exact e3
theorem e0j (p n : Nat) (hp : p < 2 ^ 32) (hn : n < 2 ^ 32) : F9.bit (p : Int) (n : Int) = ((S p n : Nat) : Int) := by
 unfold F9.bit S
 rw [c9w (by omega) (by omega), show ((n : Int) / 2) = ((n / 2 : Nat) : Int) by omega]
 by_cases h : n % 2 = 1
 ·rw [if_pos (by omega), if_pos h, a8r (by omega) (by omega)]
 ·rw [if_neg (by omega), if_neg h]
theorem d5a (p n k : Nat) (hp : p < 2 ^ 32) (hn : n < 2 ^ 32) : F9.b04 (p : Int) k (n : Int) = ((Sn p k n : Nat) : Int) := by
 induction k with
 | zero => rfl
 | succ k ih => rw [F9.b04, ih, e0j _ _ hp (c9A k hp hn)]; rfl
theorem e7z (wide : Bool) : F9.by wide = (byN wide : Int) := by cases wide <;> rfl
theorem d5b (wide : Bool) : byN wide < 2 ^ 32 := by cases wide <;> decide
theorem b44 (wide : Bool) : a7J wide < 4294967296 := by cases wide <;> decide
theorem c47 (wide : Bool) : a4d.f wide = some (a7J wide : Int) := by cases wide <;> rfl
theorem c48 (wide : Bool) : a2R.f wide = some (a2p wide : Int) := by cases wide <;> rfl
theorem e0k (p r : Nat) (c : Int) (hp : p < 2 ^ 32) (hr : r < 2 ^ 32) (hc : 0 ≤ c ∧ c < 256) : a0j.stp (p : Int) (r : Int) c = ((c7e p r c : Nat) : Int) := by
 obtain ⟨n, rfl⟩ := Int.eq_ofNat_of_zero_le hc.1
 have h1 : r % 256 ^^^ n < 2 ^ 8 := Nat.xor_lt_two_pow (by omega) (by omega)
 have h2 : r % 256 ^^^ n < 2 ^ 32 := by omega
 unfold a0j.stp c7e
 rw [show ((r : Int) % 256) = ((r % 256 : Nat) : Int) by omega, c4Z (by omega) (by omega), d5a _ _ _ hp h2, show ((r : Int) / 256) = ((r / 256 : Nat) : Int) by omega, Int.toNat_natCast]
 exact a8r (by omega) (c9A 8 hp h2)
theorem d5c (p : Nat) (hp : p < 2 ^ 32) (l : List Int) (hl : Bytes l) : ∀ r : Nat, r < 2 ^ 32 → l.foldl (a0j.stp (p : Int)) (r : Int) = ((a4F p r l : Nat) : Int) := by
 induction l with
 | nil => intro r hr; rfl
 | cons c l ih =>
  intro r hr; have hc := hl c (by simp); rw [List.foldl_cons, e0k p r c hp hr hc, ih (fun x hx => hl x (by simp [hx])) _ (c1O (by decide) hp hr hc)]
  rfl
theorem c9B (n : Nat) (wide : Bool) : n &&& a7J wide = n % 2 ^ wid wide := Nat.and_two_pow_sub_one_eq_mod n (wid wide)
theorem d29 (n : Nat) (l : List Int) (wide : Bool) (hn : n < 4294967296) (hl : Bytes l) : a0j.f (n : Int) l wide = some ((a4F (byN wide) (n % 2 ^ wid wide) l : Nat) : Int) := by
 unfold a0j.f
 rw [c47, Option.bind_some, e7z, b41 hn (b44 wide), c9B, d5c _ (d5b wide) l hl]
 have : n % 2 ^ wid wide ≤ n := Nat.mod_le _ _
 omega
theorem c9C (wide : Bool) : a7J wide % 2 ^ wid wide = a7J wide := Nat.mod_eq_of_lt (b2X wide)
theorem d5d (l : List Int) (wide : Bool) (hl : Bytes l) : a0j.f (a7J wide : Int) l wide = some ((a4F (byN wide) (a7J wide) l : Nat) : Int) := by
 have := d29 (a7J wide) l wide (b44 wide) hl
 rwa [c9C] at this
theorem g2K {n : Nat} {wide : Bool} (h : n < 2 ^ wid wide) : n < 4294967296 := by
 have : 2 ^ wid wide ≤ 2 ^ 32 := Nat.pow_le_pow_right (by decide) (e7y wide)
 omega
def c9D (l : List Int) (wide : Bool) : List Int := l ++ leb (ofN l wide : Int) (a2p wide)
theorem c5a {l : List Int} (h : Bytes l) (wide : Bool) : Bytes (c9D l wide) := h.append (b6h _ _)
theorem b1V (wide : Bool) : a2p wide ≤ 4 := by cases wide <;> decide
def b45 (l : List Int) (wide : Bool) : Bool := decide (a2p wide ≤ l.length) && decide (a4F (byN wide) (a7J wide) l = d46 wide)
theorem d3a (l : List Int) (wide : Bool) (hl : Bytes l) : a7K.f l wide = some (b45 l wide) := by
 unfold a7K.f b45
 simp only [c48, c47, d5d l wide hl, Option.bind_some]
 by_cases h : a2p wide ≤ l.length
 ·have h' : (l.length : Int) ≥ (a2p wide : Int) := by omega
  simp only [h, h', decide_true, Bool.true_and, if_true]
  have e : ∀ a b : Nat, ((a : Int) == (b : Int)) = decide (a = b) := fun a b => by
   rw [Bool.eq_iff_iff, beq_iff_eq, decide_eq_true_iff]
   omega
  cases wide
  ·simp only [Bool.false_eq_true, if_false]
   exact congrArg some (e _ 61624)
  ·simp only [if_true]
   exact congrArg some (e _ 3736805603)
 ·have h' : ¬ (l.length : Int) ≥ (a2p wide : Int) := by omega
  simp only [h, h', decide_false, Bool.false_and, if_false]
  cases wide <;> rfl
def a8X (l : List Int) (wide : Bool) : List Int × Bool := if b45 l wide = true then (l.take (l.length - a2p wide), true) else ([], false)
theorem d3b (l : List Int) (wide : Bool) (hl : Bytes l) (hn : l.length ≤ 100000) : a8Y.f l wide = some (a8X l wide) := by
 unfold a8Y.f a8X
 rw [d3a l wide hl, Option.bind_some]
 have h4 := b1V wide
 by_cases h : b45 l wide = true
 ·have hs : a2p wide ≤ l.length := by
   unfold b45 at h
   simp only [Bool.and_eq_true, decide_eq_true_eq] at h
   exact h.1
  rw [if_pos h, if_pos h, c48, Option.bind_some, w64 (by omega) (by omega), if_pos (by omega), if_pos (by omega), show (((l.length : Int) - (a2p wide : Int)).toNat) = l.length - a2p wide by omega]; unfold P5.f; rw [if_pos (by rw [List.length_take]; omega)]
  rfl
 ·rw [if_neg h, if_neg h]
theorem d3c (l : List Int) (wide : Bool) (hl : Bytes l) (hs : a2p wide ≤ l.length) : b45 l wide = true ↔ c9D (l.take (l.length - a2p wide)) wide = l := by
 have e := List.take_append_drop (l.length - a2p wide) l
 have h := d49 (l.take (l.length - a2p wide)) (l.drop (l.length - a2p wide)) wide (hl.take _) (hl.drop _) (by rw [List.length_drop]; omega)
 rw [e] at h
 unfold b45
 simp only [hs, decide_true, Bool.true_and, decide_eq_true_eq]
 rw [h]
 unfold c9D
 constructor
 ·intro h1; rw [← h1, e]
 ·intro h1; have h2 : l.take (l.length - a2p wide) ++ leb (ofN (l.take (l.length - a2p wide)) wide : Int) (a2p wide) = l.take (l.length - a2p wide) ++ l.drop (l.length - a2p wide) := by rw [h1, e]
  exact (List.append_cancel_left h2).symm
theorem a8Z (m : Int) : ∀ (l : List Int) (b : Bool) (acc : List Int), Bytes l → Bytes acc → Bytes (b1A m l b acc).1
 | [], b, acc, _, ha => by
  unfold b1A
  split
  ·exact Bytes.nil
  ·exact ha
 | c :: t, b, acc, hl, ha => by
  have hc := hl c (by simp); have ht : Bytes t := fun x hx => hl x (by simp [hx])
  unfold b1A
  split
  ·exact Bytes.nil
  ·split
   ·exact a8Z m t b acc ht ha
   ·split
    ·exact a8Z m t false _ ht (ha.append (Bytes.cons (c4W hc) Bytes.nil))
    ·split
     ·exact a8Z m t true acc ht ha
     ·exact a8Z m t b _ ht (ha.append (Bytes.cons hc Bytes.nil))
theorem a81 {l : List Int} (h : Bytes l) (m : Int) : Bytes (Y0 l m).1 := a8Z m l false [] h Bytes.nil
theorem c9E (wide : Bool) : DF.size wide = (a2p wide : Int) := by cases wide <;> rfl
def a4x (m : Int) (wide : Bool) (s : DF) : DF :=
 if (Y0 s.held m).2 = true then
  if (Y0 s.held m).1.length = 0 then s
  else if ((Y0 s.held m).1.length : Int) < DF.size wide + 2 then { s with ts := wrap64 (s.ts + 1) }
  else if ((Y0 s.held m).1.length : Int) > DF.size wide + 65535 then { s with tl := wrap64 (s.tl + 1) }
  else if (a8X (Y0 s.held m).1 wide).2 = true then { s with tg := wrap64 (s.tg + 1), done := s.done ++ [(a8X (Y0 s.held m).1 wide).1] }
  else { s with tw := wrap64 (s.tw + 1) }
 else { s with ta := wrap64 (s.ta + 1) }
theorem c7g (m : Int) (wide : Bool) (s : DF) (h0 : 0 ≤ m) (h1 : m < 4294967296) (hb : Bytes s.held) (hl : s.held.length < 70368744177664) (hd : s.done.length < 5864062014805) : Ev (fun k => DF.close k m wide s) (a4x m wide s) := by
 unfold DF.close
 refine Ev.bind (c1M s.held m hb h0 h1 hl) ?_
 have hz := DF.size_le wide
 have hu := a81 hb m
 unfold a4x
 by_cases a : (Y0 s.held m).2 = true
 ·simp only [a, if_true]
  by_cases b : (Y0 s.held m).1.length = 0
  ·simp only [b, if_true]
   exact Ev.now _
  ·simp only [b, if_false]
   by_cases c : ((Y0 s.held m).1.length : Int) < DF.size wide + 2
   ·simp only [c, if_true]
    exact Ev.now _
   ·simp only [c, if_false]
    by_cases d : ((Y0 s.held m).1.length : Int) > DF.size wide + 65535
    ·simp only [d, if_true]
     exact Ev.now _
    ·simp only [d, if_false]
     rw [d3b _ wide hu (by omega)]
     simp only [Option.bind_some]
     by_cases e : (a8X (Y0 s.held m).1 wide).2 = true
     ·simp only [e, if_true, hd]
      exact Ev.now _
     ·simp only [e, if_false]
      exact Ev.now _
 ·simp only [a, if_false]
  exact Ev.now _
def a4g (m : Int) (wide : Bool) (s : DF) (c : Int) : DF :=
 if s.inn = true then if c = 126 then { a4x m wide s with held := [] } else { s with held := s.held ++ [c] }
 else if c = 126 then { s with inn := true } else s
def X6 (m : Int) (wide : Bool) (s : DF) (l : List Int) : DF := l.foldl (a4g m wide) s
theorem c0G (m : Int) (wide : Bool) (s : DF) : X6 m wide s [] = s := rfl
theorem a88 (m : Int) (wide : Bool) (s : DF) (c : Int) (l : List Int) : X6 m wide s (c :: l) = X6 m wide (a4g m wide s c) l := rfl
theorem c1Q (m : Int) (wide : Bool) (s : DF) (a b : List Int) : X6 m wide s (a ++ b) = X6 m wide (X6 m wide s a) b := by unfold X6; rw [List.foldl_append]
theorem b6M (m : Int) (wide : Bool) (s : DF) : (a4x m wide s).held = s.held ∧ (a4x m wide s).inn = s.inn ∧ (a4x m wide s).done.length ≤ s.done.length + 1 := by
 unfold a4x
 repeat' split
 all_goals exact ⟨rfl, rfl, by first | (simp; done) | omega⟩
theorem b8u (m : Int) (wide : Bool) (s : DF) (c : Int) : (a4g m wide s c).held.length ≤ s.held.length + 1 ∧ (a4g m wide s c).done.length ≤ s.done.length + 1 := by
 have h := b6M m wide s
 unfold a4g
 repeat' split
 ·exact ⟨by simp, h.2.2⟩
 ·exact ⟨by simp, by simp⟩
 ·exact ⟨by simp, by simp⟩
 ·exact ⟨by omega, by omega⟩
theorem b1W {m : Int} {wide : Bool} {s : DF} {c : Int} (hs : Bytes s.held) (hc : 0 ≤ c ∧ c < 256) : Bytes (a4g m wide s c).held := by
 unfold a4g
 repeat' split
 ·exact Bytes.nil
 ·exact hs.append (Bytes.cons hc Bytes.nil)
 ·exact hs
 ·exact hs
theorem d3d (m : Int) (wide : Bool) (s : DF) (c : Int) (h0 : 0 ≤ m) (h1 : m < 4294967296) (hb : Bytes s.held) (hl : s.held.length < 70368744177664) (hd : s.done.length < 5864062014805) : Ev (fun k => DF.step k m wide s c) (a4g m wide s c) := by
 unfold DF.step a4g
 by_cases a : s.inn = true
 ·simp only [a, if_true]
  by_cases b : c = 126
  ·simp only [b, if_true]
   exact Ev.bind (c7g m wide s h0 h1 hb hl hd) (Ev.now _)
  ·simp only [b, if_false, show s.held.length < 140737488355328 by omega, if_true]
   exact Ev.now _
 ·simp only [a, if_false]
  by_cases b : c = 126
  ·simp only [b, if_true]
   exact Ev.now _
  ·simp only [b, if_false]
   exact Ev.now _
theorem c0H (m : Int) (wide : Bool) (h0 : 0 ≤ m) (h1 : m < 4294967296) : ∀ (l : List Int) (s : DF), Bytes l → Bytes s.held → s.held.length + l.length ≤ 1000000000 → s.done.length + l.length ≤ 1000000000 → Ev (fun k => DF.feed k m wide s l) (X6 m wide s l)
 | [], s, _, _, _, _ => Ev.now _
 | c :: l, s, hl, hs, h2, h3 => by
  have hc := hl c (by simp); have ht : Bytes l := fun x hx => hl x (by simp [hx])
  rw [List.length_cons] at h2 h3; have h4 := b8u m wide s c; exact Ev.bind (d3d m wide s c h0 h1 hs (by omega) (by omega)) (c0H m wide h0 h1 l _ ht (b1W hs hc) (by omega) (by omega))
def g2L (m : Int) (wide : Bool) (l : List Int) : (List (List Int)) × Int × Int × Int × Int × Int :=
 ((X6 m wide DF.init l).done, (X6 m wide DF.init l).tg, (X6 m wide DF.init l).ta, (X6 m wide DF.init l).ts, (X6 m wide DF.init l).tl, (X6 m wide DF.init l).tw)
def a6e : Bool → List Int → List Int → List (List Int)
 | _, _, [] => []
 | true, h, c :: l => if c = 126 then h :: a6e true [] l else a6e true (h ++ [c]) l
 | false, h, c :: l => if c = 126 then a6e true h l else a6e false h l
def norm (s : DF) : DF := { s with inn := false, held := [] }
def tally (m : Int) (wide : Bool) (s : DF) (f : List Int) : DF := norm (a4x m wide { s with held := f })
theorem c7h (m : Int) (wide : Bool) (s : DF) : norm { a4x m wide s with held := [] } = tally m wide (norm s) s.held := by
 unfold tally norm a4x
 simp only []
 repeat' split
 all_goals rfl
theorem a9a (m : Int) (wide : Bool) : ∀ (l : List Int) (s : DF), (s.inn = false → s.held = []) → norm (X6 m wide s l) = (a6e s.inn s.held l).foldl (tally m wide) (norm s)
 | [], s, _ => by
  unfold a6e
  rfl
 | c :: l, s, hs => by
  rw [a88]
  cases hi : s.inn with
  | true =>
   by_cases b : c = 126
   ·have e : a4g m wide s c = { a4x m wide s with held := [] } := by unfold a4g; rw [if_pos hi, if_pos b]
    have hin : (a4g m wide s c).inn = true := by rw [e]; exact (b6M m wide s).2.1.trans hi
    rw [a9a m wide l (a4g m wide s c) (fun h => by rw [hin] at h; cases h), hin, a6e, if_pos b, List.foldl_cons, ← c7h, e]
   ·have e : a4g m wide s c = { s with held := s.held ++ [c] } := by unfold a4g; rw [if_pos hi, if_neg b]
    have hin : (a4g m wide s c).inn = true := by rw [e]; exact hi
    rw [a9a m wide l (a4g m wide s c) (fun h => by rw [hin] at h; cases h), hin, a6e, if_neg b, e]
    rfl
  | false =>
   have hh := hs hi
   by_cases b : c = 126
   ·have e : a4g m wide s c = { s with inn := true } := by unfold a4g; rw [if_neg (by rw [hi]; decide), if_pos b]
    rw [a9a m wide l (a4g m wide s c) (fun h => by rw [e] at h; cases h), e, a6e, if_pos b]
    rfl
   ·have e : a4g m wide s c = s := by unfold a4g; rw [if_neg (by rw [hi]; decide), if_neg b]
    rw [e, a9a m wide l s hs, hi, a6e, if_neg b]
theorem c5d (wide : Bool) : a0P.f wide = some (a7J wide : Int) := by cases wide <;> rfl
theorem b2Y (wide : Bool) : O6.f wide = some (a2p wide : Int) := by cases wide <;> rfl
theorem c7i (p : Nat) (hp : p < 2 ^ 32) (l : List Int) (i : Nat) (r : Nat) (d : Nat) : ∀ (j w : Nat), j + d = 8 → w < 2 ^ 32 →
  Ev (fun k => F5.l0 k l (p : Int) ((Sn p d w : Nat) : Int) (wrap64 ((i : Int) + 1))) (r : Int) →
  Ev (fun k => F5.l1 k l (p : Int) (w : Int) (i : Int) (j : Int)) (r : Int) := by
 induction d with
 | zero =>
  intro j w hj hw h; refine Ev.step (fun k => ?_) h; rw [F5.l1, if_neg (by omega)]
  rfl
 | succ d ih =>
  intro j w hj hw h; rw [Sn_succ] at h; refine Ev.step (fun k => ?_) (ih (j + 1) (S p w) (by omega) (b93 hp hw) h); rw [F5.l1, if_pos (by omega)]; have e1 : Int.tmod (w : Int) 2 = ((w % 2 : Nat) : Int) := by
   rw [Int.tmod_eq_emod_of_nonneg (by omega)]
   omega
  have e2 : Int.tdiv (w : Int) 2 % 4294967296 = ((w / 2 : Nat) : Int) := by
   rw [Int.tdiv_eq_ediv_of_nonneg (by omega)]
   omega
  rw [e1, e2, w64 (by omega) (by omega)]; unfold S
  by_cases c : w % 2 = 1
  ·rw [if_pos (by omega), if_pos c, a8r (by omega) (by omega)]
   rfl
  ·rw [if_neg (by omega), if_neg c]
   rfl
theorem c7j (p : Nat) (hp : p < 2 ^ 32) (l : List Int) (hl : Bytes l) (hn : l.length ≤ 100000) (d : Nat) : ∀ (i w : Nat), l.length - i = d → i ≤ l.length → w < 2 ^ 32 →
  Ev (fun k => F5.l0 k l (p : Int) (w : Int) (i : Int)) ((a4F p w (l.drop i) : Nat) : Int) := by
 induction d with
 | zero =>
  intro i w hd hi hw; refine Ev.step (f := fun _ => some ((a4F p w (l.drop i) : Nat) : Int)) (fun k => ?_) (Ev.now _); rw [F5.l0, if_neg (by omega), List.drop_of_length_le (by omega)]
  rfl
 | succ d ih =>
  intro i w hd hi hw; have hil : i < l.length := by omega
  have hc := hl _ (List.getElem_mem hil); obtain ⟨c, e⟩ := Int.eq_ofNat_of_zero_le hc.1; have hc2 : c < 256 := by omega
  rw [List.drop_eq_getElem_cons hil, b8t]; refine Ev.step (fun k => ?_) (c7i p hp l i _ 8 0 (w ^^^ c) (by omega) (Nat.xor_lt_two_pow hw (by omega)) ?_)
  ·rw [F5.l0, if_pos (by omega), if_pos (by omega), a1V i hil, e, show ((c : Int) % 4294967296) = (c : Int) by omega, a8r (by omega) (by omega)]
   rfl
  ·have h := ih (i + 1) (c7e p w l[i]) (by omega) (by omega) (c1O (by decide) hp hw hc); rw [w64 (by omega) (by omega)]; rw [b7l, e, Int.toNat_natCast] at h; rw [b7l, e, Int.toNat_natCast]; exact h
theorem c7k (n : Nat) (l : List Int) (wide : Bool) (hn : n < 4294967296) (hl : Bytes l) (hs : l.length ≤ 100000) : Ev (fun k => F5.f k (n : Int) l wide) ((a4F (byN wide) (n % 2 ^ wid wide) l : Nat) : Int) := by
 have hm : n % 2 ^ wid wide < 2 ^ 32 := by
  have : n % 2 ^ wid wide ≤ n := Nat.mod_le _ _
  omega
 have h := c7j (byN wide) (d5b wide) l hl hs l.length 0 (n % 2 ^ wid wide) (by omega) (by omega) hm
 rw [List.drop_zero] at h
 have hj : Ev (fun k => F5.j0 k (n : Int) l wide (byN wide : Int)) ((a4F (byN wide) (n % 2 ^ wid wide) l : Nat) : Int) := by
  refine Ev.step (fun k => ?_) h; rw [F5.j0, c5d, Option.bind_some, b41 hn (b44 wide), c9B]
  rfl
 unfold F5.f
 cases wide
 ·exact hj
 ·exact hj
theorem d3e (l : List Int) (wide : Bool) (hl : Bytes l) (hs : l.length ≤ 100000) : Ev (fun k => F5.f k (a7J wide : Int) l wide) ((a4F (byN wide) (a7J wide) l : Nat) : Int) := by
 have := c7k (a7J wide) l wide (b44 wide) hl hs
 rwa [c9C] at this
theorem d5e (l : List Int) (wide : Bool) (hl : Bytes l) (hs : l.length ≤ 100000) : Ev (fun k => a3q.f k l wide) ((ofN l wide : Nat) : Int) := by
 unfold a3q.f
 simp only [c5d, Option.bind_some]
 refine Ev.bind (d3e l wide hl hs) ?_
 have h1 := c1P l wide _ (b2X wide) hl
 have h2 := d45 h1
 have h3 := b44 wide
 have h4 : a4F (byN wide) (a7J wide) l ≤ a7J wide := by
  unfold a7J at h1 ⊢
  omega
 have h5 : (((a7J wide : Nat) : Int) - ((a4F (byN wide) (a7J wide) l : Nat) : Int)) % 4294967296 = ((ofN l wide : Nat) : Int) := by
  unfold ofN; unfold a7J at h2 h3 h4 ⊢; rw [← h2]
  omega
 rw [h5]
 exact Ev.now _
theorem c7l (wide : Bool) (d : Nat) : ∀ (i : Nat) (acc : List Int) (n : Int), a2p wide = i + d → acc.length + d < 140737488355328 → 0 ≤ n → n < 4294967296 →
  Ev (fun k => V7.l0 k wide acc n (i : Int)) (acc ++ leb n d) := by
 have h4 := b1V wide
 induction d with
 | zero =>
  intro i acc n hs ha hn hn1; refine Ev.step (f := fun _ => some (acc ++ leb n 0)) (fun k => ?_) (Ev.now _); rw [V7.l0, b2Y, Option.bind_some, if_neg (by omega)]
  simp [leb]
 | succ d ih =>
  intro i acc n hs ha hn hn1; have next := ih (i + 1) (acc ++ [n % 256]) (n / 256) (by omega) (by simp; omega) (by omega) (by omega); rw [List.append_assoc] at next; refine Ev.step (fun k => ?_) next; have e1 : Int.tmod n 256 % 256 = n % 256 := by
   rw [Int.tmod_eq_emod_of_nonneg hn]
   omega
  have e2 : Int.tdiv n 256 % 4294967296 = n / 256 := by
   rw [Int.tdiv_eq_ediv_of_nonneg hn]
   omega
  rw [V7.l0, b2Y, Option.bind_some, if_pos (by omega), if_pos (by omega), e1, e2, w64 (by omega) (by omega)]
  rfl
theorem c7m (l : List Int) (wide : Bool) (hl : Bytes l) (hn : l.length ≤ 100000) : Ev (fun k => V7.f k l wide) (c9D l wide) := by
 have h4 := b1V wide
 have h := c7l wide (a2p wide) 0 l (ofN l wide : Int) (by omega) (by omega) (by omega) (by have := g2K (of_lt l wide hl); omega)
 unfold V7.f
 simp only [List.length_nil, Nat.zero_add, List.nil_append, show l.length < 140737488355328 by omega, if_true]
 exact Ev.bind (d5e l wide hl hn) h
theorem c7n (l : List Int) (wide : Bool) (hl : Bytes l) (hn : l.length ≤ 100000) : Ev (fun k => U1.f k l wide) (a8X l wide) := by
 have h4 := b1V wide
 unfold U1.f
 rw [b2Y]
 simp only [Option.bind_some]
 rw [w64 (by omega) (by omega)]
 by_cases hs : a2p wide ≤ l.length
 ·have e : ((l.length : Int) - (a2p wide : Int)).toNat = l.length - a2p wide := by omega
  simp only [e, show ¬ ((l.length : Int) - (a2p wide : Int) < 0) by omega, show (0 : Int) ≤ (l.length : Int) - (a2p wide : Int) by omega, show (l.length : Int) - (a2p wide : Int) ≤ (l.length : Int) by omega, if_true, if_false]
  refine Ev.bind (c7m (l.take (l.length - a2p wide)) wide (hl.take _) (by rw [List.length_take]; omega)) ?_; have g := d3c l wide hl hs; have i := d2Z (c5a (hl.take (l.length - a2p wide)) wide) hl; unfold a8X
  by_cases c : b45 l wide = true
  ·rw [if_pos (i.2 (g.1 c)), if_pos c, if_pos (by rw [List.length_nil, List.length_take]; omega), List.nil_append]; exact Ev.now _
  ·rw [if_neg (fun h => c (g.2 (i.1 h))), if_neg c]; exact Ev.now _
 ·simp only [show ((l.length : Int) - (a2p wide : Int) < 0) by omega, if_true]
  unfold a8X b45
  simp only [hs, decide_false, Bool.false_and, Bool.false_eq_true, if_false]
  exact Ev.now _
theorem e0l (l : List (List Int)) (i : Nat) (h : i < l.length) : a18 l (i : Int) = l[i] := by
 unfold a18
 rw [Int.toNat_natCast, List.getD_eq_getElem?_getD, List.getElem?_eq_getElem h]
 rfl
def ahead (d : List (List Int)) (s : DF) : DF := { s with done := d ++ s.done }
theorem c1R (m : Int) (wide : Bool) (d : List (List Int)) (s : DF) : a4x m wide (ahead d s) = ahead d (a4x m wide s) := by
 unfold a4x ahead
 simp only []
 repeat' split
 all_goals simp_all
theorem c5e (m : Int) (wide : Bool) (d : List (List Int)) (s : DF) (c : Int) : a4g m wide (ahead d s) c = ahead d (a4g m wide s c) := by
 unfold a4g
 have hi : (ahead d s).inn = s.inn := rfl
 have hh : (ahead d s).held = s.held := rfl
 rw [hi, hh]
 by_cases a : s.inn = true
 ·rw [if_pos a, if_pos a]
  by_cases b : c = 126
  ·rw [if_pos b, if_pos b, c1R]
   rfl
  ·rw [if_neg b, if_neg b]
   rfl
 ·rw [if_neg a, if_neg a]
  by_cases b : c = 126
  ·rw [if_pos b, if_pos b]
   rfl
  ·rw [if_neg b, if_neg b]
theorem b6N (m : Int) (wide : Bool) (d : List (List Int)) : ∀ (l : List Int) (s : DF), X6 m wide (ahead d s) l = ahead d (X6 m wide s l)
 | [], _ => rfl
 | c :: l, s => by rw [a88, a88, c5e, b6N m wide d l]
theorem c7o (s : DF) : s = ahead s.done { s with done := [] } := by
 unfold ahead
 simp
theorem a2e (m : Int) (wide : Bool) : ∀ (l : List Int) (s : DF), Bytes l → Bytes s.held → Bytes (X6 m wide s l).held ∧ (X6 m wide s l).held.length ≤ s.held.length + l.length ∧ (X6 m wide s l).done.length ≤ s.done.length + l.length
 | [], s, _, hs => ⟨hs, by simp [c0G], by simp [c0G]⟩
 | c :: l, s, hl, hs => by
  have hc := hl c (by simp); have ht : Bytes l := fun x hx => hl x (by simp [hx])
  have h := a2e m wide l (a4g m wide s c) ht (b1W hs hc); have h2 := b8u m wide s c; rw [a88, List.length_cons]; exact ⟨h.1, by omega, by omega⟩
theorem div_zero {n p : Int} (h0 : 0 ≤ n) (hp : 0 < p) : n / p = 0 ↔ n < p := by
 constructor
 ·intro h; have h1 := Int.mul_ediv_add_emod n p; have h2 := Int.emod_lt_of_pos n hp; rw [h, Int.mul_zero] at h1
  omega
 ·intro h; exact Int.ediv_eq_zero_of_lt h0 h
def fits (n : Int) (s : Int) : Bool := decide (1 ≤ s) && decide (s ≤ 8) && decide (n < 256 ^ s.toNat)
theorem d3f (n s : Int) (h0 : 0 ≤ n) (h1 : n < 18446744073709551616) : a2N.f n s = some (fits n s) := by
 unfold a2N.f fits
 by_cases a : 1 ≤ s
 ·rw [if_pos a]
  by_cases b : s ≤ 8
  ·rw [if_pos b]
   by_cases c : s = 8
   ·subst c; rw [if_pos rfl]
    simp [d4X, h1]
   ·rw [if_neg c, w64 (by omega) (by omega), if_pos (by omega)]; have hs : shr .u64 n (8 * s) = n / 256 ^ s.toNat := by
     unfold shr; rw [Nat.min_eq_left (by simp [IntKind.bits]; omega), c4R, show (8 * s).toNat = 8 * s.toNat by omega]
    rw [hs]; have hp : (0 : Int) < 256 ^ s.toNat := Int.pow_pos (by decide); have : (n / 256 ^ s.toNat == 0) = decide (n < 256 ^ s.toNat) := by
     rw [Bool.eq_iff_iff, beq_iff_eq, decide_eq_true_iff]; exact div_zero h0 hp
    simp [this, a, b]
  ·rw [if_neg b]
   simp [b]
 ·rw [if_neg a]
  simp [a]
theorem d5f (x : List Int) (hm : x.length ≤ 4611686018427387904) (d : Nat) : ∀ (y : List Int) (i : Nat) (k : Nat), y.length = x.length → 2 * i ≤ x.length → x.length + 1 - 2 * i ≤ d → d < k →
  (∀ p, (hp : p < x.length) → (hq : p < y.length) → y[p] = if p < i ∨ x.length - i ≤ p then x[x.length - 1 - p]'(by omega) else x[p]) →
  D8.l0 k y (i : Int) ((x.length : Int) - 1 - i) = some x.reverse := by
 induction d with
 | zero => intro y i k hl hi hd hk h; omega
 | succ d ih =>
  intro y i k hl hi hd hk h; obtain ⟨k, rfl, hk⟩ := d99 hk; rw [D8.l0]
  by_cases c : (i : Int) < (x.length : Int) - 1 - i
  ·rw [if_pos c, if_pos (by omega), if_pos (by omega), if_pos (by omega), if_pos (by omega)]; rw [show ((x.length : Int) - 1 - (i : Int)) = ((x.length - 1 - i : Nat) : Int) by omega]; rw [a1V (a := y) (x.length - 1 - i) (by omega), a1V (a := y) i (by omega), Int.toNat_natCast, Int.toNat_natCast]; rw [w64 (by omega) (by omega), w64 (by omega) (by omega)]; have := ih ((y.set i (y[x.length - 1 - i]'(by omega))).set (x.length - 1 - i) (y[i]'(by omega))) (i + 1) k (by simp [hl]) (by omega) (by omega) (by omega) (by
    intro p hp hq; have hi1 := h i (by omega) (by omega); have hj1 := h (x.length - 1 - i) (by omega) (by omega); have hp1 := h p hp (by omega)
    simp only [List.getElem_set]
    by_cases e1 : x.length - 1 - i = p
    ·subst e1
     simp only [if_true]
     rw [hi1, if_neg (by omega), if_pos (by omega)]
     congr 1
     omega
    ·rw [if_neg e1]
     by_cases e2 : i = p
     ·subst e2
      simp only [if_true]
      rw [hj1, if_neg (by omega), if_pos (by omega)]
     ·rw [if_neg e2, hp1]
      by_cases e3 : p < i ∨ x.length - i ≤ p
      ·rw [if_pos e3, if_pos (by omega)]
      ·rw [if_neg e3, if_neg (by omega)])
   rw [show ((i : Int) + 1) = ((i + 1 : Nat) : Int) by omega, show (((x.length - 1 - i : Nat) : Int) - 1) = (x.length : Int) - 1 - ((i + 1 : Nat) : Int) by omega]; exact this
  ·rw [if_neg c]
   congr 1
   apply List.ext_getElem
   ·simp [hl]
   ·intro p hp hq
    simp only [List.length_reverse] at hq
    rw [List.getElem_reverse, h p (by omega) hp]
    by_cases e : p < i ∨ x.length - i ≤ p
    ·rw [if_pos e]
    ·rw [if_neg e]
     congr 1
     omega
theorem c1S (x : List Int) (hm : x.length ≤ 4611686018427387904) : Ev (fun k => D8.f k x) x.reverse := by
 refine ⟨x.length + 3, fun k hk => ?_⟩
 show D8.f k x = _
 unfold D8.f
 rw [w64 (by omega) (by omega)]
 have := d5f x hm (x.length + 2) x 0 k rfl (by omega) (by omega) (by omega) (by
  intro p hp hq; rw [if_neg (by omega)])
 simpa using this
theorem d5g (n : Int) (h0 : 0 ≤ n) (s : Nat) (hs : s ≤ 8) (big : Bool) (d : Nat) : ∀ (i : Nat) (y : List Int), s - i = d → i ≤ s → y = leb n i ++ List.replicate (s - i) 0 →
  Ev (fun k => a08.l0 k n big y (s : Int) (i : Int)) (a1W n s big, true) := by
 induction d with
 | zero =>
  intro i y hd hi hy; obtain rfl : i = s := by omega
  rw [Nat.sub_self, List.replicate_zero, List.append_nil] at hy; subst hy; refine Ev.step (f := fun k => if big = true then ((D8.f k (leb n i)).bind fun t => (some (t, true))) else (some (leb n i, true))) (fun k => ?_) ?_
  ·rw [a08.l0, if_neg (by omega)]
  ·unfold a1W
   cases big
   ·exact Ev.const rfl
   ·simp only [if_true]
    exact Ev.bind (c1S _ (by rw [a3S]; omega)) (Ev.now _)
 | succ d ih =>
  intro i y hd hi hy; have hlen : y.length = s := by
   subst hy
   simp [a3S]
   omega
  refine Ev.step (f := fun k => a08.l0 k n big (leb n (i + 1) ++ List.replicate (s - (i + 1)) 0) (s : Int) ((i + 1 : Nat) : Int)) (fun k => ?_) (ih (i + 1) _ (by omega) (by omega) rfl); rw [a08.l0, if_pos (by omega), w64 (by omega) (by omega), if_pos (by omega), if_pos (by omega), if_pos (by omega), w64 (by omega) (by omega), Int.toNat_natCast]; have hsh : shr .u64 n (8 * (i : Int)) = n / 256 ^ i := by
   unfold shr; rw [Nat.min_eq_left (by simp [IntKind.bits]; omega), c4R, show (8 * (i : Int)).toNat = 8 * i by omega]
  have : y.set i (shr .u64 n (8 * (i : Int)) % 256) = leb n (i + 1) ++ List.replicate (s - (i + 1)) 0 := by
   rw [hsh, hy, b8p, show s - i = (s - (i + 1)) + 1 by omega, List.replicate_succ, List.set_append_right _ _ (by rw [a3S]; exact Nat.le_refl _)]
   simp [a3S]
  rw [this]
  rfl
theorem d5h (n s : Int) (big : Bool) (h0 : 0 ≤ n) (h1 : n < 18446744073709551616) : Ev (fun k => a08.f k n s big) (if fits n s then (a1W n s.toNat big, true) else ([], false)) := by
 unfold a08.f
 rw [d3f n s h0 h1]
 simp only [Option.bind_some]
 by_cases c : fits n s = true
 ·simp only [c, if_true]
  have hf : 1 ≤ s ∧ s ≤ 8 := by
   unfold fits at c
   simp only [Bool.and_eq_true, decide_eq_true_eq] at c
   exact c.1
  simp only [show (0 : Int) ≤ s by omega, show s.toNat ≤ 281474976710656 by omega, if_true]
  have := d5g n h0 s.toNat (by omega) big s.toNat 0 (List.replicate s.toNat 0) (by omega) (by omega) (by simp [leb]); rw [show ((s.toNat : Nat) : Int) = s by omega] at this; exact this
 ·simp only [c, if_false]
  exact Ev.const rfl
theorem c9F (v b : Int) (h0 : 0 ≤ v) (h1 : v < 72057594037927936) (hb : 0 ≤ b ∧ b < 256) : Go.bits .or .u64 (IntKind.u64.wrap (v * 256)) (IntKind.u64.wrap b) = v * 256 + b := by
 rw [b40 (by omega) (by omega), b40 (by omega) (by omega)]
 exact c67 (i := 8) (by omega) (by omega) (by omega) (by omega) (by omega) (by omega)
theorem d5i (x : List Int) (hb : Bytes x) (hl : x.length ≤ 8) (big : Bool) (d : Nat) : ∀ i : Nat, x.length - i = d → i ≤ x.length →
  Ev (fun k => X4.l0 k x big (a0n ((if big then x else x.reverse).take i)) (x.length : Int) (i : Int)) (a98 x big, true) := by
 induction d with
 | zero =>
  intro i hd hi; obtain rfl : i = x.length := by omega
  refine Ev.step (f := fun _ => some (a98 x big, true)) (fun k => ?_) (Ev.now _); rw [X4.l0, if_neg (by omega)]; unfold a98
  cases big <;> simp [List.take_of_length_le]
 | succ d ih =>
  intro i hd hi; refine Ev.step (f := fun k => X4.l0 k x big (a0n ((if big then x else x.reverse).take (i + 1))) (x.length : Int) ((i + 1 : Nat) : Int)) (fun k => ?_) (ih (i + 1) (by omega) (by omega)); have hr : 0 ≤ a0n ((if big then x else x.reverse).take i) ∧ a0n ((if big then x else x.reverse).take i) < 72057594037927936 := by
   have hbb : Bytes ((if big then x else x.reverse).take i) := by
    cases big
    ·exact hb.reverse.take i
    ·exact hb.take i
   have := a6s _ hbb; have h2 := a99 (i := ((if big then x else x.reverse).take i).length) (j := 7) (by rw [List.length_take]; omega); rw [show (256 : Int) ^ 7 = 72057594037927936 from by decide] at h2; exact ⟨this.1, Int.lt_of_lt_of_le this.2 h2⟩
  rw [X4.l0, if_pos (by omega), w64 (x := (x.length : Int) - 1) (by omega) (by omega), w64 (x := (x.length : Int) - 1 - (i : Int)) (by omega) (by omega), if_pos (by omega), if_pos (by omega)]
  cases big
  ·simp only [Bool.false_eq_true, if_false] at hr ⊢
   rw [c9F _ _ hr.1 hr.2 (hb.at _), w64 (by omega) (by omega)]; rw [List.take_succ_eq_append_getElem (by simp; omega), a5q, List.getElem_reverse]; rw [show ((x.length : Int) - 1 - (i : Int)) = ((x.length - 1 - i : Nat) : Int) by omega, a1V (a := x) (x.length - 1 - i) (by omega)]
   rfl
  ·simp only [if_true] at hr ⊢
   rw [if_pos (by omega), if_pos (by omega), c9F _ _ hr.1 hr.2 (hb.at _), w64 (by omega) (by omega)]; rw [List.take_succ_eq_append_getElem (by omega), a5q, a1V (a := x) i (by omega)]
   rfl
theorem c5f (x : List Int) (hb : Bytes x) (big : Bool) : Ev (fun k => X4.f k x big) (if 1 ≤ x.length ∧ x.length ≤ 8 then (a98 x big, true) else (0, false)) := by
 unfold X4.f
 by_cases a : (x.length : Int) < 1
 ·simp only [a, if_true]
  rw [if_neg (by omega)]; refine Ev.step (f := fun _ => some (0, false)) (fun k => ?_) (Ev.now _); rw [X4.j0, if_pos rfl]
 ·simp only [a, if_false]
  by_cases b : (x.length : Int) > 8
  ·rw [if_neg (by omega)]; refine Ev.step (f := fun _ => some (0, false)) (fun k => ?_) (Ev.now _); rw [X4.j0, if_pos (by simpa using b)]
  ·rw [if_pos (by omega)]; refine Ev.step (f := fun k => X4.l0 k x big 0 (x.length : Int) 0) (fun k => ?_) ?_
   ·rw [X4.j0, if_neg (by simpa using b)]
   ·have := d5i x hb (by omega) big x.length 0 (by omega) (by omega)
    simpa [a0n] using this
theorem d3g (x : List Int) (hb : Bytes x) (hl : x.length ≤ 8) (big : Bool) (d : Nat) : ∀ i : Nat, x.length - i = d → i ≤ x.length →
  Ev (fun k => Q8.l0 k x big (a0n ((if big then x else x.reverse).take i)) (i : Int)) (a98 x big) := by
 induction d with
 | zero =>
  intro i hd hi; obtain rfl : i = x.length := by omega
  refine Ev.step (f := fun _ => some (a98 x big)) (fun k => ?_) (Ev.now _); rw [Q8.l0, if_neg (by omega)]; unfold a98
  cases big <;> simp [List.take_of_length_le]
 | succ d ih =>
  intro i hd hi; refine Ev.step (f := fun k => Q8.l0 k x big (a0n ((if big then x else x.reverse).take (i + 1))) ((i + 1 : Nat) : Int)) (fun k => ?_) (ih (i + 1) (by omega) (by omega)); have hr : 0 ≤ a0n ((if big then x else x.reverse).take i) ∧ a0n ((if big then x else x.reverse).take i) < 72057594037927936 := by
   have hbb : Bytes ((if big then x else x.reverse).take i) := by
    cases big
    ·exact hb.reverse.take i
    ·exact hb.take i
   have := a6s _ hbb; have h2 := a99 (i := ((if big then x else x.reverse).take i).length) (j := 7) (by rw [List.length_take]; omega); rw [show (256 : Int) ^ 7 = 72057594037927936 from by decide] at h2; exact ⟨this.1, Int.lt_of_lt_of_le this.2 h2⟩
  have st : ∀ v b : Int, 0 ≤ v → v < 72057594037927936 → 0 ≤ b ∧ b < 256 → IntKind.u64.wrap (IntKind.u64.wrap (256 * v) + IntKind.u64.wrap b) = v * 256 + b := by
   intro v b a1 a2 a3; rw [b40 (x := 256 * v) (by omega) (by omega), b40 (x := b) (by omega) (by omega), b40 (by omega) (by omega)]
   omega
  rw [Q8.l0, if_pos (by omega)]
  cases big
  ·simp only [Bool.false_eq_true, if_false] at hr ⊢
   rw [w64 (x := (x.length : Int) - 1) (by omega) (by omega), w64 (x := (x.length : Int) - 1 - (i : Int)) (by omega) (by omega), if_pos (by omega), if_pos (by omega)]; rw [st _ _ hr.1 hr.2 (hb.at _), w64 (by omega) (by omega)]; rw [List.take_succ_eq_append_getElem (by simp; omega), a5q, List.getElem_reverse]; rw [show ((x.length : Int) - 1 - (i : Int)) = ((x.length - 1 - i : Nat) : Int) by omega, a1V (a := x) (x.length - 1 - i) (by omega)]
   rfl
  ·simp only [if_true] at hr ⊢
   rw [if_pos (by omega), st _ _ hr.1 hr.2 (hb.at _), w64 (by omega) (by omega)]; rw [List.take_succ_eq_append_getElem (by omega), a5q, a1V (a := x) i (by omega)]
   rfl
theorem c0I (x : List Int) (hb : Bytes x) (hl : x.length ≤ 8) (big : Bool) : Ev (fun k => Q8.f k x big) (a98 x big) := by
 show Ev (fun k => Q8.l0 k x big 0 0) _
 have := d3g x hb hl big x.length 0 (by omega) (by omega)
 simpa [a0n] using this
def a3r (l : List Int) (a n : Nat) (big : Bool) : Int := a98 ((l.take (a + n)).drop a) big
theorem b7m (l : List Int) (a n : Nat) (h : a + n ≤ l.length) : ((l.take (a + n)).drop a).length = n := by
 rw [List.length_drop, List.length_take]; omega
theorem a9b (l : List Int) (hb : Bytes l) (a n : Nat) (big : Bool) (hn : n ≤ 4) (h : a + n ≤ l.length) : 0 ≤ a3r l a n big ∧ a3r l a n big < 4294967296 := by
 have h1 := c69 ((l.take (a + n)).drop a) big ((hb.take _).drop _)
 rw [b7m l a n h] at h1
 have h2 : (256 : Int) ^ n ≤ 256 ^ 4 := a99 hn
 have h3 : (256 : Int) ^ 4 = 4294967296 := by decide
 rw [h3] at h2
 exact ⟨h1.1, Int.lt_of_lt_of_le h1.2 h2⟩
theorem a4G (l : List Int) (hb : Bytes l) (a n : Nat) (big : Bool) (h1 : 1 ≤ n) (hn : n ≤ 4) (h : a + n ≤ l.length) : Ev (fun k => y8.num k l big (a : Int) (n : Int)) (a3r l a n big) := by
 have hr := a9b l hb a n big hn h
 have hl := b7m l a n h
 have e1 : ((a : Int) + (n : Int)).toNat = a + n := by omega
 have e2 : ((a : Int)).toNat = a := by omega
 have hg := c5f ((l.take (a + n)).drop a) ((hb.take _).drop _) big
 rw [if_pos (by rw [hl]; omega)] at hg
 unfold y8.num
 rw [e1, e2]
 refine Ev.bind hg ?_
 refine Ev.const ?_
 show some (a3r l a n big % 4294967296) = _
 rw [Int.emod_eq_of_lt hr.1 hr.2]
theorem a8D (l : List Int) (hb : Bytes l) (a : Nat) (big : Bool) (hm : l.length ≤ 4611686018427387904) (h : a + 4 ≤ l.length) : Ev (fun k => U5.f k l (a : Int) big) (a3r l a 4 big) := by
 have hr := a9b l hb a 4 big (by omega) h
 have hl := b7m l a 4 h
 have e0 : wrap64 ((a : Int) + 4) = (a : Int) + 4 := w64 (by omega) (by omega)
 have e1 : ((a : Int) + 4).toNat = a + 4 := by omega
 have e2 : ((a : Int)).toNat = a := by omega
 have hg := c0I ((l.take (a + 4)).drop a) ((hb.take _).drop _) (by rw [hl]; omega) big
 have hf : ∀ k, U5.f k l (a : Int) big = (Q8.f k ((l.take (a + 4)).drop a) big).bind fun t => some (t % 4294967296) := by
  intro k; unfold U5.f; rw [e0, if_pos (by omega), if_pos (by omega), if_pos (by omega), e1, e2]
 refine Ev.congr hf ?_
 refine Ev.bind hg ?_
 refine Ev.const ?_
 show some (a3r l a 4 big % 4294967296) = _
 rw [Int.emod_eq_of_lt hr.1 hr.2]
def b69 (l : List Int) (at_ n : Int) : List Int × Bool :=
 if 0 ≤ at_ ∧ 0 ≤ n ∧ at_ + n ≤ l.length then ((l.drop at_.toNat).take n.toNat, true) else ([], false)
theorem b8v (l : List Int) (at_ n : Int) (hl : l.length < 140737488355328) (ha : at_ ≤ 9223372036854775807) : a2m.f l at_ n = some (b69 l at_ n) := by
 unfold a2m.f b69
 by_cases a : at_ < 0
 ·rw [if_pos a, if_neg (by omega)]
 ·rw [if_neg a]
  by_cases b : n < 0
  ·rw [if_pos b, if_neg (by omega)]
  ·rw [if_neg b]
   by_cases c : at_ > (l.length : Int)
   ·rw [if_pos c, if_neg (by omega)]
   ·rw [if_neg c, w64 (x := (l.length : Int) - at_) (by omega) (by omega)]
    by_cases d : n > (l.length : Int) - at_
    ·rw [if_pos d, if_neg (by omega)]
    ·rw [if_neg d, if_pos (by omega), w64 (by omega) (by omega), if_pos (by omega), if_pos (by omega), if_pos (by omega)]; rw [b8q _ (by rw [List.length_drop, List.length_take]; omega)]
     simp only [Option.bind_some]
     rw [List.drop_take, show (at_ + n).toNat - at_.toNat = n.toNat by omega]
def a2f (l : List Int) (big : Bool) : Int × Int × Int × List Int × Int × Int :=
 if l.length < 16 then (0, 0, 0, [], 0, 2) else
 if a3r l 8 4 big > 131072 then (0, 0, 0, [], 0, 4) else
 if (l.length : Int) < 16 + a3r l 8 4 big then (0, 0, 0, [], 0, 2) else
 (a3r l 0 4 big, a3r l 4 4 big, a3r l 12 4 big, (l.drop 16).take (a3r l 8 4 big).toNat, 16 + a3r l 8 4 big, 0)
theorem d3h (l : List Int) (hb : Bytes l) (hm : l.length < 140737488355328) (big : Bool) : Ev (fun k => a4N.f k l big) (a2f l big) := by
 unfold a4N.f a2f
 by_cases h : l.length < 16
 ·rw [if_pos h]; exact Ev.congr (fun k => if_pos (by omega)) (Ev.now _)
 ·rw [if_neg h]; refine Ev.congr (fun k => if_neg (by omega)) ?_; refine Ev.bind (a4G l hb 0 4 big (by omega) (by omega) (by omega)) ?_; refine Ev.bind (a4G l hb 4 4 big (by omega) (by omega) (by omega)) ?_; refine Ev.bind (a4G l hb 8 4 big (by omega) (by omega) (by omega)) ?_; refine Ev.bind (a4G l hb 12 4 big (by omega) (by omega) (by omega)) ?_; have hr := a9b l hb 8 4 big (by omega) (by omega); generalize a3r l 8 4 big = t at hr ⊢
  by_cases h2 : t > 131072
  ·rw [if_pos h2, if_pos h2]; exact Ev.now _
  ·rw [if_neg h2, if_neg h2]; rw [b8v l 16 t hm (by omega), Option.bind_some]
   by_cases h3 : (l.length : Int) < 16 + t
   ·have hc : b69 l 16 t = ([], false) := if_neg (fun hh => by have := hh.2.2; omega); rw [if_pos h3, hc]; exact Ev.now _
   ·have hc : b69 l 16 t = ((l.drop 16).take t.toNat, true) := if_pos ⟨by omega, hr.1, by omega⟩; rw [if_neg h3, hc]; exact Ev.now _
theorem c1T (l : List Int) (hb : Bytes l) (hm : l.length < 140737488355328) (big : Bool) : Ev (fun k => U2.f k l big) (a2f l big) := by
 unfold U2.f a2f
 by_cases h : l.length < 16
 ·rw [if_pos h]; exact Ev.congr (fun k => if_pos (by omega)) (Ev.now _)
 ·rw [if_neg h]; refine Ev.congr (fun k => if_neg (by omega)) ?_; refine Ev.bind (a8D l hb 8 big (by omega) (by omega)) ?_; have hr := a9b l hb 8 4 big (by omega) (by omega); generalize a3r l 8 4 big = t at hr ⊢; have e1 : wrap64 t = t := w64 (by omega) (by omega); have e2 : wrap64 (16 + t) = 16 + t := w64 (by omega) (by omega); rw [e1, e2]
  by_cases h2 : t > 131072
  ·rw [if_pos h2]; exact Ev.congr (fun k => if_pos h2) (Ev.now _)
  ·rw [if_neg h2]; refine Ev.congr (fun k => if_neg h2) ?_
   by_cases h3 : (l.length : Int) < 16 + t
   ·rw [if_pos h3]; exact Ev.congr (fun k => if_pos h3) (Ev.now _)
   ·rw [if_neg h3]; refine Ev.congr (fun k => if_neg h3) ?_; refine Ev.bind (a8D l hb 0 big (by omega) (by omega)) ?_; refine Ev.bind (a8D l hb 4 big (by omega) (by omega)) ?_; refine Ev.bind (a8D l hb 12 big (by omega) (by omega)) ?_; have hd : (l.take ((16 + t).toNat)).drop 16 = (l.drop 16).take t.toNat := by
     rw [List.drop_take]
     congr 1
     omega
    rw [hd]; have hle : ((l.drop 16).take t.toNat).length ≤ l.length := by rw [List.length_take, List.length_drop]; omega
    refine Ev.const ?_; rw [if_pos (by omega), if_pos (by omega), if_pos (by simp only [List.length_nil]; omega), List.nil_append]
def a4T (l : List Int) : Bool × Bool × Int × Int × Bool :=
 if a3r l 0 4 false = 2712847316 then (false, false, 0, 0, true) else if a3r l 0 4 false = 2712812621 then (false, true, 0, 0, true) else
 if a3r l 0 4 true = 2712847316 then (true, false, 0, 0, true) else if a3r l 0 4 true = 2712812621 then (true, true, 0, 0, true) else (false, false, 0, 0, false)
theorem c7p (l : List Int) (hb : Bytes l) (h : 4 ≤ l.length) : Ev (fun k => a0G.f k l) (a4T l) := by
 unfold a0G.f a4T
 refine Ev.bind (a4G l hb 0 4 false (by omega) (by omega) (by omega)) ?_
 split
 ·exact Ev.now _
 ·split
  ·exact Ev.now _
  ·refine Ev.bind (a4G l hb 0 4 true (by omega) (by omega) (by omega)) ?_
   split
   ·exact Ev.now _
   ·split
    ·exact Ev.now _
    ·exact Ev.now _
def a3K (l : List Int) : Bool × Bool × Int × Int × Int :=
 if l.length < 4 then (false, false, 0, 0, 2) else
 if (a4T l).2.2.2.2 = false then (false, false, 0, 0, 3) else
 if l.length < 24 then (false, false, 0, 0, 2) else
 if a3r (l.drop 4) 0 2 (a4T l).1 ≠ 2 then (false, false, 0, 0, 3) else
 ((a4T l).1, (a4T l).2.1, a3r (l.drop 4) 12 4 (a4T l).1, a3r (l.drop 4) 16 4 (a4T l).1, 0)
theorem d3i (l : List Int) (hb : Bytes l) : Ev (fun k => a6u.f k l) (a3K l) := by
 unfold a6u.f a3K
 by_cases h : l.length < 4
 ·rw [if_pos h]; exact Ev.congr (fun k => if_pos (by omega)) (Ev.now _)
 ·rw [if_neg h]; refine Ev.congr (fun k => if_neg (by omega)) ?_; refine Ev.bind (c7p l hb (by omega)) ?_; generalize a4T l = o
  by_cases h1 : o.2.2.2.2 = false
  ·rw [if_pos h1]; exact Ev.congr (fun k => if_pos h1) (Ev.now _)
  ·rw [if_neg h1]; refine Ev.congr (fun k => if_neg h1) ?_
   by_cases h2 : l.length < 24
   ·rw [if_pos h2]; exact Ev.congr (fun k => if_pos (by omega)) (Ev.now _)
   ·rw [if_neg h2]; refine Ev.congr (fun k => if_neg (by omega)) ?_; have hd : (l.drop 4).length = l.length - 4 := List.length_drop ..; have hb4 : Bytes (l.drop 4) := hb.drop _; refine Ev.bind (a4G (l.drop 4) hb4 0 2 o.1 (by omega) (by omega) (by omega)) ?_
    by_cases h3 : a3r (l.drop 4) 0 2 o.1 ≠ 2
    ·rw [if_pos h3]; exact Ev.congr (fun k => if_pos h3) (Ev.now _)
    ·rw [if_neg h3]; refine Ev.congr (fun k => if_neg h3) ?_; refine Ev.bind (a4G (l.drop 4) hb4 2 2 o.1 (by omega) (by omega) (by omega)) ?_; refine Ev.bind (a4G (l.drop 4) hb4 4 4 o.1 (by omega) (by omega) (by omega)) ?_; refine Ev.bind (a4G (l.drop 4) hb4 8 4 o.1 (by omega) (by omega) (by omega)) ?_; refine Ev.bind (a4G (l.drop 4) hb4 12 4 o.1 (by omega) (by omega) (by omega)) ?_; refine Ev.bind (a4G (l.drop 4) hb4 16 4 o.1 (by omega) (by omega) (by omega)) ?_; exact Ev.now _
theorem b05 (l : List Int) (hb : Bytes l) (big : Bool) (h : (a2f l big).2.2.2.2.2 = 0) : 16 ≤ (a2f l big).2.2.2.2.1 ∧ (a2f l big).2.2.2.2.1 ≤ l.length := by
 unfold a2f at h ⊢
 by_cases h1 : l.length < 16
 ·rw [if_pos h1] at h; exact absurd h (by decide)
 ·rw [if_neg h1] at h ⊢
  by_cases h2 : a3r l 8 4 big > 131072
  ·rw [if_pos h2] at h; exact absurd h (by decide)
  ·rw [if_neg h2] at h ⊢
   by_cases h3 : (l.length : Int) < 16 + a3r l 8 4 big
   ·rw [if_pos h3] at h; exact absurd h (by decide)
   ·rw [if_neg h3] at h ⊢; have := a9b l hb 8 4 big (by omega) (by omega); exact ⟨by show 16 ≤ 16 + a3r l 8 4 big; omega, by show 16 + a3r l 8 4 big ≤ _; omega⟩
def b1t (big : Bool) : Nat → List Int → List S51 → Nat → List S51 × Int × Int
 | 0, _, acc, _ => (acc, 0, 0)
 | f + 1, l, acc, i =>
  if i < l.length then
   if (a2f (l.drop i) big).2.2.2.2.2 = 0 then
    b1t big f l (acc ++ [⟨(a2f (l.drop i) big).1, (a2f (l.drop i) big).2.1, (a2f (l.drop i) big).2.2.1, (a2f (l.drop i) big).2.2.2.1⟩]) (i + (a2f (l.drop i) big).2.2.2.2.1.toNat)
   else (acc, (i : Int), (a2f (l.drop i) big).2.2.2.2.2)
  else (acc, 0, 0)
theorem d3j (l : List Int) (hb : Bytes l) (hm : l.length ≤ 3518437208000) (big b2 : Bool) (s k0 : Int) (f : Nat) : ∀ (i : Nat) (acc : List S51), l.length < i + f → i ≤ l.length → acc.length ≤ i →
  Ev (fun k => pcap_Read.l0 k l acc i big b2 s k0) (big, b2, s, k0, b1t big f l acc i) := by
 induction f with
 | zero =>
  intro i acc h1 h2 h3
  omega
 | succ f ih =>
  intro i acc h1 h2 h3; unfold b1t
  by_cases h : i < l.length
  ·rw [if_pos h]; refine Ev.step (fun k => by rw [pcap_Read.l0, if_pos (by omega), if_pos (by omega), if_pos (by omega), Int.toNat_natCast]) ?_; have hbd : Bytes (l.drop i) := hb.drop i; have hld : (l.drop i).length = l.length - i := List.length_drop ..; refine Ev.bind (d3h (l.drop i) hbd (by omega) big) ?_; have hsz := b05 (l.drop i) hbd big; generalize a2f (l.drop i) big = r at hsz ⊢
   by_cases he : r.2.2.2.2.2 = 0
   ·rw [if_pos he]; have := hsz he; refine Ev.congr (fun k => if_pos he) ?_; refine Ev.congr (fun k => if_pos (by omega)) ?_; have hw : wrap64 ((i : Int) + r.2.2.2.2.1) = ((i + r.2.2.2.2.1.toNat : Nat) : Int) := by rw [w64 (by omega) (by omega)]; omega
    rw [hw]; exact ih _ _ (by omega) (by omega) (by rw [List.length_append]; simp only [List.length_cons, List.length_nil]; omega)
   ·rw [if_neg he]; exact Ev.congr (fun k => if_neg he) (Ev.now _)
  ·rw [if_neg h]; refine Ev.step (fun k => by rw [pcap_Read.l0, if_neg (by omega)]) ?_; exact Ev.now _
def a6G (l : List Int) : Bool × Bool × Int × Int × List S51 × Int × Int :=
 if (a3K l).2.2.2.2 = 0 then ((a3K l).1, (a3K l).2.1, (a3K l).2.2.1, (a3K l).2.2.2.1, b1t (a3K l).1 (l.length + 1) l [] 24)
 else (false, false, 0, 0, [], 0, (a3K l).2.2.2.2)
theorem b4e (l : List Int) (h : (a3K l).2.2.2.2 = 0) : 24 ≤ l.length := by
 unfold a3K at h
 by_cases h1 : l.length < 4
 ·rw [if_pos h1] at h; exact absurd h (by decide)
 ·rw [if_neg h1] at h
  by_cases h2 : (a4T l).2.2.2.2 = false
  ·rw [if_pos h2] at h; exact absurd h (by decide)
  ·rw [if_neg h2] at h
   by_cases h3 : l.length < 24
   ·rw [if_pos h3] at h; exact absurd h (by decide)
   ·omega
theorem c5g (l : List Int) (hb : Bytes l) (hm : l.length ≤ 3518437208000) : Ev (fun k => pcap_Read.f k l) (a6G l) := by
 unfold pcap_Read.f a6G
 refine Ev.bind (d3i l hb) ?_
 by_cases h : (a3K l).2.2.2.2 = 0
 ·rw [if_pos h]; refine Ev.congr (fun k => if_pos h) ?_; have := b4e l h; exact d3j l hb hm _ _ _ _ (l.length + 1) 24 [] (by omega) (by omega) (by simp)
 ·rw [if_neg h]; exact Ev.congr (fun k => if_neg h) (Ev.now _)
theorem d3k (n : Int) (h0 : 0 ≤ n) (h1 : n < 18446744073709551616) (s : Nat) (hs : s ≤ 8) (big : Bool) (d : Nat) : ∀ (i : Nat), s - i = d → i ≤ s →
  Ev (fun k => Q9.l0 k (n / 256 ^ i) (s : Int) big (a1W n i big) (i : Int)) (a1W n s big) := by
 induction d with
 | zero =>
  intro i hd hi; obtain rfl : i = s := by omega
  refine Ev.step (f := fun _ => some (a1W n i big)) (fun k => ?_) (Ev.now _); rw [Q9.l0, if_neg (by omega)]
 | succ d ih =>
  intro i hd hi; refine Ev.step (f := fun k => Q9.l0 k (n / 256 ^ (i + 1)) (s : Int) big (a1W n (i + 1) big) ((i + 1 : Nat) : Int)) (fun k => ?_) (ih (i + 1) (by omega) (by omega)); have hq0 : 0 ≤ n / 256 ^ i := Int.ediv_nonneg h0 (Int.le_of_lt (Int.pow_pos (by decide))); have hq1 : n / 256 ^ i ≤ n := Int.ediv_le_self _ h0; have hdv : IntKind.u64.wrap (Int.tdiv (n / 256 ^ i) 256) = n / 256 ^ (i + 1) := by
   rw [Int.tdiv_eq_ediv_of_nonneg hq0, Int.ediv_ediv_of_nonneg (Int.le_of_lt (Int.pow_pos (by decide))), ← Int.pow_succ, b40]
   ·exact Int.ediv_nonneg h0 (Int.le_of_lt (Int.pow_pos (by decide)))
   ·exact Int.lt_of_le_of_lt (Int.ediv_le_self _ h0) h1
  have hmd : Int.tmod (n / 256 ^ i) 256 % 256 = n / 256 ^ i % 256 := by
   rw [Int.tmod_eq_emod_of_nonneg hq0]
   omega
  have hl : (a1W n i big).length = i := a1L _ _ _; rw [Q9.l0, if_pos (by omega), hdv, hmd, w64 (by omega) (by omega)]
  cases big
  ·simp only [Bool.false_eq_true, if_false]
   rw [if_pos (by omega)]; have : a1W n i false ++ [n / 256 ^ i % 256] = a1W n (i + 1) false := by
    unfold a1W
    simp only [Bool.false_eq_true, if_false]
    rw [b8p]
   rw [this]
   rfl
  ·simp only [if_true, Option.bind_some]
   rw [if_pos (by simp [hl]; omega)]; have : [n / 256 ^ i % 256] ++ a1W n i true = a1W n (i + 1) true := by
    unfold a1W
    simp only [if_true]
    rw [b8p, List.reverse_append]
    rfl
   rw [this]
   rfl
theorem b6j (n : Int) (s : Nat) (big : Bool) (h0 : 0 ≤ n) (h1 : n < 18446744073709551616) (hs : s ≤ 8) : Ev (fun k => Q9.f k n (s : Int) big) (a1W n s big) := by
 have := d3k n h0 h1 s hs big s 0 (by omega) (by omega)
 have e : a1W n 0 big = [] := by unfold a1W; cases big <;> rfl
 rw [e] at this
 simp only [Int.pow_zero, Int.ediv_one] at this
 exact this
def a5P (l : List Int) (s : Nat) (big : Bool) : List Int := (l.map fun n => a1W n s big).flatten
theorem a5F (l : List Int) (s : Nat) (big : Bool) : (a5P l s big).length = l.length * s := by
 unfold a5P
 induction l with
 | nil => simp
 | cons a l ih => rw [List.map_cons, List.flatten_cons, List.length_append, a1L, ih, List.length_cons, Nat.add_mul]; omega
theorem c7q (l : List Int) (s : Nat) (big : Bool) (i : Nat) (hi : i < l.length) : a5P (l.take (i + 1)) s big = a5P (l.take i) s big ++ a1W l[i] s big := by
 unfold a5P
 rw [List.take_succ_eq_append_getElem hi, List.map_append, List.flatten_append]
 simp
theorem d3l (big : Bool) (s : Nat) (hs1 : 1 ≤ s) (hs : s ≤ 4) (l : List Int) (hl : l.length ≤ 8) (hr : ∀ x ∈ l, 0 ≤ x ∧ x < 256 ^ s) (d : Nat) : ∀ (i : Nat), l.length - i = d → i ≤ l.length →
  Ev (fun k => a0Q.l0 k big s (a5P (l.take i) s big) l l.length i) (a5P l s big) := by
 induction d with
 | zero =>
  intro i hd hi; obtain rfl : i = l.length := by omega
  refine Ev.step (fun k => by rw [a0Q.l0, if_neg (by omega)]) ?_; rw [List.take_length]; exact Ev.now _
 | succ d ih =>
  intro i hd hi; have hlt : i < l.length := by omega
  have hx := hr l[i] (List.getElem_mem hlt); have hp : (256 : Int) ^ s ≤ 256 ^ 4 := a99 hs; have h4 : (256 : Int) ^ 4 = 4294967296 := by decide
  rw [h4] at hp; have e1 : IntKind.u64.wrap (rd l (i : Int)) = l[i] := by rw [a1V i hlt]; exact b40 hx.1 (by omega)
  have hw : wrap64 ((i : Int) + 1) = ((i + 1 : Nat) : Int) := by rw [w64 (by omega) (by omega)]; omega
  have hf : fits l[i] (s : Int) = true := by
   unfold fits
   simp only [Int.toNat_natCast, Bool.and_eq_true, decide_eq_true_eq]
   exact ⟨⟨by omega, by omega⟩, hx.2⟩
  have hps := d5h l[i] (s : Int) big hx.1 (by omega); rw [hf, if_pos rfl, Int.toNat_natCast] at hps; have hlen : (a5P (l.take i) s big).length + (a1W l[i] s big).length < 140737488355328 := by
   rw [a5F, a1L, List.length_take]; have : min i l.length * s ≤ 8 * 4 := Nat.mul_le_mul (by omega) hs
   omega
  refine Ev.step (fun k => by rw [a0Q.l0, if_pos (by omega), if_pos (by omega), if_pos (by omega), e1]) ?_; refine Ev.bind hps ?_; refine Ev.congr (fun k => if_pos hlen) ?_; have hg := ih (i + 1) (by omega) (by omega); rw [c7q l s big i hlt] at hg; rw [hw]; exact hg
theorem b2Z (big : Bool) (s : Nat) (hs1 : 1 ≤ s) (hs : s ≤ 4) (l : List Int) (hl : l.length ≤ 8) (hr : ∀ x ∈ l, 0 ≤ x ∧ x < 256 ^ s) : Ev (fun k => a0Q.f k big s l) (a5P l s big) :=
 d3l big s hs1 hs l hl hr l.length 0 (by omega) (by omega)
theorem b6k (l : List Int) (n : Int) (big : Bool) (h0 : 0 ≤ n) (h1 : n < 4294967296) (hl : l.length < 140737488355324) : Ev (fun k => a0D.f k l n big) (l ++ a1W n 4 big) := by
 unfold a0D.f
 rw [b40 h0 (by omega)]
 refine Ev.bind (b6j n 4 big h0 (by omega) (by omega)) ?_
 exact Ev.congr (fun k => if_pos (by rw [a1L]; omega)) (Ev.now _)
def c7r (big : Bool) (r : S51) : List Int := a5P [r.f0, r.f1, (r.f3.length : Int), r.f2] 4 big ++ r.f3
def a3V (nano : Bool) : Int := if nano = true then 2712812621 else 2712847316
def a8j (big nano : Bool) (snap link : Int) : List Int := a5P [a3V nano] 4 big ++ (a5P [2, 4] 2 big ++ a5P [0, 0, snap, link] 4 big)
def c5h (big : Bool) : List Int → List S51 → List Int × Int
 | y, [] => (y, 0)
 | y, r :: l => if (r.f3.length : Int) > 131072 then ([], 4) else c5h big (y ++ c7r big r) l
def c7s : List S51 → Nat
 | [] => 0
 | r :: l => 16 + r.f3.length + c7s l
def Good (r : S51) : Prop := (0 ≤ r.f0 ∧ r.f0 < 4294967296) ∧ (0 ≤ r.f1 ∧ r.f1 < 4294967296) ∧ (0 ≤ r.f2 ∧ r.f2 < 4294967296)
theorem e0m (l : List S51) (i : Nat) (h : i < l.length) : X9 l (i : Int) = l[i] := by
 unfold X9
 rw [Int.toNat_natCast, List.getD_eq_getElem?_getD, List.getElem?_eq_getElem h]
 rfl
theorem c1V : (256 : Int) ^ 4 = 4294967296 := by decide
theorem c5i (big n : Bool) (s k0 : Int) (l : List S51) (hm : l.length ≤ 4611686018427387904) (hg : ∀ r ∈ l, Good r) (d : Nat) : ∀ (i : Nat) (y : List Int), l.length - i = d → i ≤ l.length → y.length + c7s (l.drop i) < 140737488355328 →
  Ev (fun k => pcap_Put.l0 k y l l.length i big n s k0) (c5h big y (l.drop i)) := by
 induction d with
 | zero =>
  intro i y hd hi hc; obtain rfl : i = l.length := by omega
  refine Ev.step (fun k => by rw [pcap_Put.l0, if_neg (by omega)]) ?_; rw [List.drop_length]; exact Ev.now _
 | succ d ih =>
  intro i y hd hi hc; have hlt : i < l.length := by omega
  have hdr : l.drop i = l[i] :: l.drop (i + 1) := List.drop_eq_getElem_cons hlt; have hgr := hg l[i] (List.getElem_mem hlt); have e1 := e0m l i hlt; have hw : wrap64 ((i : Int) + 1) = ((i + 1 : Nat) : Int) := by rw [w64 (by omega) (by omega)]; omega
  rw [hdr] at hc ⊢; have ih2 := ih (i + 1); generalize l[i] = r at hgr e1 hc ⊢; obtain ⟨g0, g1, g2⟩ := hgr; refine Ev.step (fun k => by rw [pcap_Put.l0, if_pos (by omega), if_pos (by omega), if_pos (by omega), e1]) ?_; unfold c7s at hc; unfold c5h
  by_cases h : (r.f3.length : Int) > 131072
  ·rw [if_pos h]; exact Ev.congr (fun k => if_pos h) (Ev.now _)
  ·rw [if_neg h]; refine Ev.congr (fun k => if_neg h) ?_; have hmod : (r.f3.length : Int) % 4294967296 = r.f3.length := Int.emod_eq_of_lt (by omega) (by omega); rw [hmod]; refine Ev.bind (b2Z big 4 (by omega) (by omega) [r.f0, r.f1, (r.f3.length : Int), r.f2] (by simp) (by
    intro x hx; rw [c1V]
    simp only [List.mem_cons, List.not_mem_nil, or_false] at hx
    rcases hx with rfl | rfl | rfl | rfl <;> omega)) ?_
   have hl := a5F [r.f0, r.f1, (r.f3.length : Int), r.f2] 4 big
   simp only [List.length_cons, List.length_nil] at hl
   unfold c7r; generalize a5P [r.f0, r.f1, (r.f3.length : Int), r.f2] 4 big = z at hl ⊢; refine Ev.congr (fun k => if_pos (by omega)) ?_; refine Ev.congr (fun k => Option.bind_some ..) ?_; refine Ev.congr (fun k => if_pos (by rw [List.length_append]; omega)) ?_; rw [hw, List.append_assoc]; exact ih2 _ (by omega) (by omega) (by rw [List.length_append, List.length_append]; omega)
theorem b06 (big nano : Bool) (s k0 : Int) : (a8j big nano s k0).length = 24 := by
 unfold a8j
 rw [List.length_append, List.length_append, a5F, a5F, a5F]
 rfl
theorem b1X (nano : Bool) : 0 ≤ a3V nano ∧ a3V nano < 4294967296 := by cases nano <;> decide
theorem e7A (big : Bool) : ([0, 0, 0, 0, 0, 0, 0, 0] : List Int) = a1W 0 4 big ++ a1W 0 4 big := by cases big <;> rfl
theorem c5j (big nano : Bool) (s k0 : Int) (l : List S51) (hm : l.length ≤ 4611686018427387904) (hg : ∀ r ∈ l, Good r) (hs : 0 ≤ s ∧ s < 4294967296) (hk : 0 ≤ k0 ∧ k0 < 4294967296) (hc : c7s l ≤ 140000000000) :
  Ev (fun k => pcap_Put.f k big nano s k0 l) (c5h big (a8j big nano s k0) l) := by
 have hh := b06 big nano s k0
 have hloop := c5i big nano s k0 l hm hg l.length 0 (a8j big nano s k0) (by omega) (by omega) (by rw [List.drop_zero]; omega)
 rw [List.drop_zero] at hloop
 have hj : Ev (fun k => pcap_Put.j0 k l (a3V nano) big nano s k0) (c5h big (a8j big nano s k0) l) := by
  have hmk := b1X nano; refine Ev.step (fun k => by rw [pcap_Put.j0]) ?_; refine Ev.bind (b2Z big 4 (by omega) (by omega) [a3V nano] (by simp) (by
   intro x hx; rw [c1V]
   simp only [List.mem_cons, List.not_mem_nil, or_false] at hx
   rw [hx]; exact hmk)) ?_
  refine Ev.bind (b2Z big 2 (by omega) (by omega) [2, 4] (by simp) (by
   intro x hx
   simp only [List.mem_cons, List.not_mem_nil, or_false] at hx
   rcases hx with rfl | rfl <;> decide)) ?_
  refine Ev.bind (b2Z big 4 (by omega) (by omega) [0, 0, s, k0] (by simp) (by
   intro x hx; rw [c1V]
   simp only [List.mem_cons, List.not_mem_nil, or_false] at hx
   rcases hx with rfl | rfl | rfl | rfl <;> omega)) ?_
  have g2M : y7.f [a5P [a3V nano] 4 big, a5P [2, 4] 2 big, a5P [0, 0, s, k0] 4 big] = some (a8j big nano s k0) := by
   have he : [a5P [a3V nano] 4 big, a5P [2, 4] 2 big, a5P [0, 0, s, k0] 4 big].flatten = a8j big nano s k0 := by
    unfold a8j
    simp
   unfold y7.f; rw [he, if_pos (by rw [hh]; omega)]
  refine Ev.congr (fun k => by rw [g2M, Option.bind_some]) ?_; exact hloop
 unfold pcap_Put.f
 cases nano with
 | false => exact Ev.congr (fun k => if_neg (by decide)) hj
 | true => exact Ev.congr (fun k => if_pos rfl) hj
theorem c7t (big nano : Bool) (s k0 : Int) (hs : 0 ≤ s ∧ s < 4294967296) (hk : 0 ≤ k0 ∧ k0 < 4294967296) : Ev (fun k => umpireref09_Header.f k big nano s k0) (a8j big nano s k0) := by
 have hj : Ev (fun k => umpireref09_Header.j0 k (a3V nano) big nano s k0) (a8j big nano s k0) := by
  have hmk := b1X nano; refine Ev.step (fun k => by rw [umpireref09_Header.j0]) ?_; refine Ev.bind (b6k [] (a3V nano) big hmk.1 hmk.2 (by simp)) ?_; refine Ev.bind (b6j 2 2 big (by omega) (by omega) (by omega)) ?_; refine Ev.congr (fun k => if_pos (by rw [List.length_append, a1L, a1L]; simp)) ?_; refine Ev.congr (fun k => Option.bind_some ..) ?_; refine Ev.bind (b6j 4 2 big (by omega) (by omega) (by omega)) ?_; refine Ev.congr (fun k => if_pos (by rw [List.length_append, List.length_append, a1L, a1L, a1L]; simp)) ?_; refine Ev.congr (fun k => Option.bind_some ..) ?_; refine Ev.congr (fun k => Option.bind_some ..) ?_; refine Ev.congr (fun k => if_pos (by simp only [List.length_append, a1L, List.length_cons, List.length_nil]; omega)) ?_; refine Ev.bind (b6k _ s big hs.1 hs.2 (by simp only [List.length_append, a1L, List.length_cons, List.length_nil]; omega)) ?_; refine Ev.bind (b6k _ k0 big hk.1 hk.2 (by simp only [List.length_append, a1L, List.length_cons, List.length_nil]; omega)) ?_; have he : [] ++ a1W (a3V nano) 4 big ++ a1W 2 2 big ++ a1W 4 2 big ++ [0, 0, 0, 0, 0, 0, 0, 0] ++ a1W s 4 big ++ a1W k0 4 big = a8j big nano s k0 := by
   rw [e7A big]; unfold a8j a5P
   simp
  rw [he]; exact Ev.now _
 unfold umpireref09_Header.f
 cases nano with
 | false => exact Ev.congr (fun k => if_neg (by decide)) hj
 | true => exact Ev.congr (fun k => if_pos rfl) hj
theorem d3m (n : Int) (big : Bool) (h0 : 0 ≤ n) (h1 : n < 4294967296) : a98 (a1W n 4 big) big = n := d21 n 4 big h0 (by rw [c1V]; exact h1)
def Fine (r : S51) : Prop := Q.Good r ∧ (r.f3.length : Int) ≤ 131072
theorem c5k (big : Bool) (r : S51) : (c7r big r).length = 16 + r.f3.length := by
 unfold c7r
 rw [List.length_append, a5F]
 rfl
theorem d5j (big nano : Bool) (s k0 : Int) : a8j big nano s k0 = a1W (a3V nano) 4 big ++ (a1W 2 2 big ++ (a1W 4 2 big ++ (a1W 0 4 big ++ (a1W 0 4 big ++ (a1W s 4 big ++ a1W k0 4 big))))) := by
 unfold a8j a5P
 simp
theorem d3n (l : List Int) (hb : Bytes l) (a n : Nat) (big : Bool) (h : a + n ≤ l.length) : a1W (a3r l a n big) n big = (l.take (a + n)).drop a := by
 have hl := b7m l a n h
 have := c0B ((l.take (a + n)).drop a) big ((hb.take _).drop _)
 rw [hl] at this
 exact this
theorem d3o (l : List Int) (d a n : Nat) (big : Bool) : a3r (l.drop d) a n big = a3r l (d + a) n big := by
 unfold a3r
 rw [List.take_drop, List.drop_drop, Nat.add_assoc]
theorem d5k (l : List Int) (hb : Bytes l) (h : 4 ≤ l.length) (b n : Bool) : (a3r l 0 4 b = a3V n) ↔ l.take 4 = a1W (a3V n) 4 b := by
 have h1 := d3n l hb 0 4 b (by omega)
 rw [Nat.zero_add, List.drop_zero] at h1
 constructor
 ·intro e; rw [← h1, e]
 ·intro e; have hr := b1X n; have : a3r l 0 4 b = a98 (l.take 4) b := by unfold a3r; rw [Nat.zero_add, List.drop_zero]
  rw [this, e]; exact d3m _ _ hr.1 hr.2
theorem e0n : a3V true = 2712812621 := rfl
theorem e0o : a3V false = 2712847316 := rfl
theorem c5l (l : List Int) (hb : Bytes l) (h : 4 ≤ l.length) : a4T l =
  if l.take 4 = a1W (a3V false) 4 false then (false, false, 0, 0, true) else if l.take 4 = a1W (a3V true) 4 false then (false, true, 0, 0, true) else
  if l.take 4 = a1W (a3V false) 4 true then (true, false, 0, 0, true) else if l.take 4 = a1W (a3V true) 4 true then (true, true, 0, 0, true) else (false, false, 0, 0, false) := by
 unfold a4T
 rw [← e0o, ← e0n]
 simp only [d5k l hb h]
def c5m (l : List Int) (b n : Bool) : Bool × Bool × Int × Int × Int :=
 if l.length < 24 then (false, false, 0, 0, 2) else if a3r l 4 2 b = 2 then (b, n, a3r l 16 4 b, a3r l 20 4 b, 0) else (false, false, 0, 0, 3)
theorem d3p (l : List Int) (hb : Bytes l) (hm : l.length ≤ 4611686018427387904) (b n : Bool) : Ev (fun k => G6.tail k l b n) (c5m l b n) := by
 unfold G6.tail c5m
 by_cases h : l.length < 24
 ·rw [if_pos h]; exact Ev.congr (fun k => if_pos (by omega)) (Ev.now _)
 ·rw [if_neg h]; refine Ev.congr (fun k => if_neg (by omega)) ?_; have hg := c0I ((l.take 6).drop 4) ((hb.take _).drop _) (by rw [List.length_drop, List.length_take]; omega) b; refine Ev.bind hg ?_
  show Ev _ (if a3r l 4 2 b = 2 then _ else _)
  have he : a98 ((l.take 6).drop 4) b = a3r l 4 2 b := rfl; rw [he]
  by_cases h2 : a3r l 4 2 b = 2
  ·rw [if_pos h2]; refine Ev.congr (fun k => if_pos h2) ?_; refine Ev.bind (a8D l hb 16 b hm (by omega)) ?_; refine Ev.bind (a8D l hb 20 b hm (by omega)) ?_; exact Ev.now _
  ·rw [if_neg h2]; exact Ev.congr (fun k => if_neg h2) (Ev.now _)
def d5l (l : List Int) : Nat → Nat → Bool × Bool × Int × Int × Int
 | 0, _ => (false, false, 0, 0, 3)
 | d + 1, j => if l.take 4 = a1W (a3V ((j : Int) / 2 == 1)) 4 ((j : Int) % 2 == 1) then c5m l ((j : Int) % 2 == 1) ((j : Int) / 2 == 1) else d5l l d (j + 1)
theorem d5m (l : List Int) (hb : Bytes l) (hm : l.length ≤ 4611686018427387904) (d : Nat) : ∀ j : Nat, Ev (fun k => G6.c5n k l d j) (d5l l d j) := by
 induction d with
 | zero => intro j; exact Ev.now _
 | succ d ih =>
  intro j; unfold G6.c5n d5l; generalize ((j : Int) / 2 == 1) = n; generalize ((j : Int) % 2 == 1) = b; refine Ev.bind (c7t b n 0 0 (by decide) (by decide)) ?_; refine Ev.congr (fun k => if_pos (by rw [b06]; decide)) ?_; have ht : (a8j b n 0 0).take 4 = a1W (a3V n) 4 b := by rw [d5j, List.take_left' (a1L ..)]
  rw [ht]
  by_cases h : l.take 4 = a1W (a3V n) 4 b
  ·rw [if_pos h]; exact Ev.congr (fun k => if_pos (by rw [h])) (d3p l hb hm b n)
  ·rw [if_neg h]; exact Ev.congr (fun k => if_neg (fun e => h (c0z (c68 _ _ _) (hb.take 4) e).symm)) (ih _)
theorem c1W (l : List Int) (hb : Bytes l) (hm : l.length ≤ 4611686018427387904) : Ev (fun k => G6.f k l) (a3K l) := by
 unfold G6.f a3K
 by_cases h : l.length < 4
 ·rw [if_pos h]; exact Ev.congr (fun k => if_pos (by omega)) (Ev.now _)
 ·rw [if_neg h]; refine Ev.congr (fun k => if_neg (by omega)) ?_; have hs := d5m l hb hm 4 0
  suffices he : d5l l 4 0 = (if (a4T l).2.2.2.2 = false then (false, false, 0, 0, 3) else if l.length < 24 then (false, false, 0, 0, 2) else if a3r (l.drop 4) 0 2 (a4T l).1 ≠ 2 then (false, false, 0, 0, 3) else ((a4T l).1, (a4T l).2.1, a3r (l.drop 4) 12 4 (a4T l).1, a3r (l.drop 4) 16 4 (a4T l).1, 0)) by
   rw [← he]; exact hs
  rw [c5l l hb (by omega)]
  simp only [d3o]
  simp only [d5l]
  have e0 : ((((0 : Nat) : Int)) % 2 == 1) = false := by decide
  have e0' : ((((0 : Nat) : Int)) / 2 == 1) = false := by decide
  have e1 : ((((0 + 1 : Nat) : Int)) % 2 == 1) = true := by decide
  have e1' : ((((0 + 1 : Nat) : Int)) / 2 == 1) = false := by decide
  have e2 : ((((0 + 1 + 1 : Nat) : Int)) % 2 == 1) = false := by decide
  have e2' : ((((0 + 1 + 1 : Nat) : Int)) / 2 == 1) = true := by decide
  have e3 : ((((0 + 1 + 1 + 1 : Nat) : Int)) % 2 == 1) = true := by decide
  have e3' : ((((0 + 1 + 1 + 1 : Nat) : Int)) / 2 == 1) = true := by decide
  rw [e0, e0', e1, e1', e2, e2', e3, e3']; have d1 : a1W (a3V false) 4 true ≠ a1W (a3V true) 4 false := by decide
  have hgo : ∀ b n : Bool, c5m l b n = (if (true : Bool) = false then (false, false, 0, 0, 3) else if l.length < 24 then (false, false, 0, 0, 2) else if a3r l (4 + 0) 2 b ≠ 2 then (false, false, 0, 0, 3) else (b, n, a3r l (4 + 12) 4 b, a3r l (4 + 16) 4 b, 0)) := by
   intro b n; unfold c5m; rw [if_neg (show ¬ ((true : Bool) = false) by decide)]
   by_cases q : l.length < 24
   ·rw [if_pos q, if_pos q]
   ·rw [if_neg q, if_neg q]
    by_cases q2 : a3r l 4 2 b = 2
    ·rw [if_pos q2, if_neg (by simpa using q2)]
    ·rw [if_neg q2, if_pos (by simpa using q2)]
  by_cases p1 : l.take 4 = a1W (a3V false) 4 false
  ·rw [if_pos p1, if_pos p1]; exact hgo _ _
  ·rw [if_neg p1, if_neg p1]
   by_cases p2 : l.take 4 = a1W (a3V false) 4 true
   ·rw [if_pos p2, if_neg (fun e => d1 (p2.symm.trans e)), if_pos p2]; exact hgo _ _
   ·rw [if_neg p2]
    by_cases p3 : l.take 4 = a1W (a3V true) 4 false
    ·rw [if_pos p3, if_pos p3]; exact hgo _ _
    ·rw [if_neg p3, if_neg p3, if_neg p2]
     by_cases p4 : l.take 4 = a1W (a3V true) 4 true
     ·rw [if_pos p4, if_pos p4]; exact hgo _ _
     ·rw [if_neg p4, if_neg p4]; rfl
theorem c1X (l : List Int) (hb : Bytes l) (hm : l.length ≤ 3518437208000) (big b2 : Bool) (s k0 : Int) (f : Nat) : ∀ (i : Nat) (acc : List S51), l.length < i + f → i ≤ l.length → acc.length ≤ i →
  Ev (fun k => umpireref09_Read.l0 k l acc i big b2 s k0) (big, b2, s, k0, b1t big f l acc i) := by
 induction f with
 | zero =>
  intro i acc h1 h2 h3
  omega
 | succ f ih =>
  intro i acc h1 h2 h3; unfold b1t
  by_cases h : i < l.length
  ·rw [if_pos h]; refine Ev.step (fun k => by rw [umpireref09_Read.l0, if_pos (by omega), if_pos (by omega), if_pos (by omega), Int.toNat_natCast]) ?_; have hbd : Bytes (l.drop i) := hb.drop i; have hld : (l.drop i).length = l.length - i := List.length_drop ..; refine Ev.bind (c1T (l.drop i) hbd (by omega) big) ?_; have hsz := b05 (l.drop i) hbd big; generalize a2f (l.drop i) big = r at hsz ⊢
   by_cases he : r.2.2.2.2.2 = 0
   ·rw [if_pos he]; have := hsz he; refine Ev.congr (fun k => if_pos he) ?_; refine Ev.congr (fun k => if_pos (by omega)) ?_; have hw : wrap64 ((i : Int) + r.2.2.2.2.1) = ((i + r.2.2.2.2.1.toNat : Nat) : Int) := by rw [w64 (by omega) (by omega)]; omega
    rw [hw]; exact ih _ _ (by omega) (by omega) (by rw [List.length_append]; simp only [List.length_cons, List.length_nil]; omega)
   ·rw [if_neg he]; exact Ev.congr (fun k => if_neg he) (Ev.now _)
  ·rw [if_neg h]; refine Ev.step (fun k => by rw [umpireref09_Read.l0, if_neg (by omega)]) ?_; exact Ev.now _
theorem c1Y (l : List Int) (hb : Bytes l) (hm : l.length ≤ 3518437208000) : Ev (fun k => umpireref09_Read.f k l) (a6G l) := by
 unfold umpireref09_Read.f a6G
 refine Ev.bind (c1W l hb (by omega)) ?_
 by_cases h : (a3K l).2.2.2.2 = 0
 ·rw [if_pos h]; refine Ev.congr (fun k => if_pos h) ?_; have := b4e l h; exact c1X l hb hm _ _ _ _ (l.length + 1) 24 [] (by omega) (by omega) (by simp)
 ·rw [if_neg h]; exact Ev.congr (fun k => if_neg h) (Ev.now _)
theorem c1Z (big : Bool) (f : Nat) (l : List Int) (hb : Bytes l) : ∀ (i : Nat) (acc : List S51), i ≤ l.length → acc.length ≤ i → (b1t big f l acc i).1.length ≤ l.length := by
 induction f with
 | zero => intro i acc h1 h2; show acc.length ≤ _; omega
 | succ f ih =>
  intro i acc h1 h2; unfold b1t
  by_cases h : i < l.length
  ·rw [if_pos h]; have hld : (l.drop i).length = l.length - i := List.length_drop ..; have hsz := b05 (l.drop i) (hb.drop i) big
   by_cases he : (a2f (l.drop i) big).2.2.2.2.2 = 0
   ·rw [if_pos he]; have := hsz he; exact ih _ _ (by omega) (by rw [List.length_append]; simp only [List.length_cons, List.length_nil]; omega)
   ·rw [if_neg he]; show acc.length ≤ _; omega
  ·rw [if_neg h]; show acc.length ≤ _; omega
theorem c2a (l : List Int) (hb : Bytes l) : (a6G l).2.2.2.2.1.length ≤ l.length := by
 unfold a6G
 by_cases h : (a3K l).2.2.2.2 = 0
 ·rw [if_pos h]; have := b4e l h; exact c1Z _ _ l hb 24 [] (by omega) (by simp)
 ·rw [if_neg h]; exact Nat.zero_le _
abbrev Note := S58
def e7B (x : Note) : Prop := (-9223372036854775808 ≤ x.f0 ∧ x.f0 ≤ 9223372036854775807) ∧ (0 ≤ x.f1 ∧ x.f1 < 4294967296) ∧ Bytes x.f2
def b4f (kind n : Int) (data : List Int) : Bool :=
 if kind = 1 ∨ kind = 2 then n == 0
 else if 0 < data.length then false
 else if kind = 3 ∨ kind = 4 then n == 0
 else if kind = 5 ∨ kind = 7 then true
 else if kind = 6 then decide (n < 256) else false
theorem d3q {kind n : Int} {data : List Int} (h : b4f kind n data = true) : 1 ≤ kind ∧ kind ≤ 7 := by
 unfold b4f at h
 (repeat' split at h) <;> first | omega | cases h
def c2c (kind n : Int) (data : List Int) : List Int :=
 kind :: (if kind ≤ 2 then ((data.length : Int) / 256) :: ((data.length : Int) % 256) :: data else if kind = 6 then [n] else if kind = 5 ∨ kind = 7 then a1W n 4 true else [])
def tot : List Note → Nat
 | [] => 0
 | x :: l => x.f2.length + 5 + tot l
def d5n (l : List Note) : Bool := l.all fun x => b4f x.f0 x.f1 x.f2 && decide (x.f2.length ≤ 65535)
def b6l (l : List Note) : List Int := l.flatMap fun x => c2c x.f0 x.f1 x.f2
def sz (c : Int) : Nat := if c ≤ 2 then 2 else if c ≤ 4 then 0 else if c = 6 then 1 else 4
theorem c9G (c : Int) : sz c ≤ 4 := by unfold sz; (repeat' split) <;> omega
def X7 (b : List Int) : Int × Int × List Int × Int × Int :=
 match b with
 | [] => (0, 0, [], 0, 2)
 | c :: r =>
  if c < 1 ∨ 7 < c then (0, 0, [], 0, 7)
  else if r.length < sz c then (0, 0, [], 0, 2)
  else if 2 < c then (c, a0n (r.take (sz c)), [], 1 + (sz c : Int), 0)
  else if (r.length : Int) < 2 + a0n (r.take 2) then (0, 0, [], 0, 2)
  else (c, 0, (r.drop 2).take (a0n (r.take 2)).toNat, 3 + a0n (r.take 2), 0)
theorem b46 {l : List Int} (h : Bytes l) {n : Nat} (hl : l.length ≤ n) : 0 ≤ a0n l ∧ a0n l < 256 ^ n :=
 ⟨(a6s l h).1, Int.lt_of_lt_of_le (a6s l h).2 (a99 hl)⟩
theorem word_lt {r : List Int} (h : Bytes r) : 0 ≤ a0n (r.take 2) ∧ a0n (r.take 2) < 65536 := by
 have := b46 (h.take 2) (n := 2) (by rw [List.length_take]; omega)
 rw [show (256 : Int) ^ 2 = 65536 by decide] at this
 exact this
theorem c9H {r : List Int} (h : Bytes r) (c : Int) : 0 ≤ a0n (r.take (sz c)) ∧ a0n (r.take (sz c)) < 4294967296 := by
 have := b46 (h.take (sz c)) (n := 4) (by have := c9G c; rw [List.length_take]; omega)
 rw [show (256 : Int) ^ 4 = 4294967296 by decide] at this
 exact this
theorem b8w {b : List Int} {kind n size : Int} {data : List Int} (hb : Bytes b) (h : X7 b = (kind, n, data, size, 0)) :
  b4f kind n data = true ∧ (0 ≤ n ∧ n < 4294967296) ∧ Bytes data ∧ data.length ≤ 65535 ∧ 1 ≤ size ∧ size ≤ b.length ∧ b = c2c kind n data ++ b.drop size.toNat := by
 cases b with
 | nil => simp [X7] at h
 | cons c r =>
  have hr : Bytes r := fun x hx => hb x (List.mem_cons_of_mem _ hx)
  have hc := hb c (List.mem_cons_self ..)
  simp only [X7] at h
  by_cases h1 : c < 1 ∨ 7 < c
  ·simp [h1] at h
  ·rw [if_neg h1] at h
   by_cases h2 : r.length < sz c
   ·simp [h2] at h
   ·rw [if_neg h2] at h
    by_cases h3 : 2 < c
    ·rw [if_pos h3] at h
     simp only [Prod.mk.injEq] at h
     obtain ⟨rfl, rfl, rfl, rfl, _⟩ := h; have hq := c9H hr c; have hd : (c :: r).drop (1 + (sz c : Int)).toNat = r.drop (sz c) := by
      rw [show (1 + (sz c : Int)).toNat = sz c + 1 by omega, List.drop_succ_cons]
     rw [hd]; have hl : (r.take (sz c)).length = sz c := by rw [List.length_take]; omega
     refine ⟨?_, hq, Bytes.nil, by simp, by omega, by rw [List.length_cons]; omega, ?_⟩
     ·unfold b4f; rw [if_neg (by omega), if_neg (by simp)]
      by_cases h4 : c = 3 ∨ c = 4
      ·rw [if_pos h4]; have : sz c = 0 := by unfold sz; rw [if_neg (by omega), if_pos (by omega)]
       rw [this]
       rfl
      ·rw [if_neg h4]
       by_cases h5 : c = 5 ∨ c = 7
       ·rw [if_pos h5]
       ·rw [if_neg h5, if_pos (by omega)]; have h6 : sz c = 1 := by unfold sz; rw [if_neg (by omega), if_neg (by omega), if_pos (by omega)]
        have := b46 (hr.take (sz c)) (n := 1) (by rw [hl]; omega); exact decide_eq_true (by omega)
     ·unfold c2c; rw [if_neg (by omega)]; have hput : ∀ s, s = sz c → a1W (a0n (r.take (sz c))) s true = r.take (sz c) := by
       intro s hs; have := c0B (r.take (sz c)) true (hr.take _); rw [hl] at this; rw [hs]; exact this
      by_cases h6 : c = 6
      ·have hs : sz c = 1 := by unfold sz; rw [if_neg (by omega), if_neg (by omega), if_pos h6]
       rw [if_pos h6]; have := hput 1 hs.symm; rw [hs] at this hl ⊢
       match hr1 : r.take 1, hl with
       | [y], _ =>
        have hy : a0n [y] = y := by simp [a0n]
        rw [hy]
        conv => lhs; rw [← List.take_append_drop 1 r, hr1]
        rfl
      ·rw [if_neg h6]
       by_cases h5 : c = 5 ∨ c = 7
       ·have hs : sz c = 4 := by unfold sz; rw [if_neg (by omega), if_neg (by omega), if_neg (by omega)]
        rw [if_pos h5, hput 4 hs.symm, List.cons_append, List.take_append_drop]
       ·have hs : sz c = 0 := by unfold sz; rw [if_neg (by omega), if_pos (by omega)]
        rw [if_neg h5, hs]
        rfl
    ·rw [if_neg h3] at h
     by_cases h4 : (r.length : Int) < 2 + a0n (r.take 2)
     ·simp [h4] at h
     ·rw [if_neg h4] at h
      simp only [Prod.mk.injEq] at h
      obtain ⟨rfl, rfl, rfl, rfl, _⟩ := h; have hw := word_lt hr; have hs : sz c = 2 := by unfold sz; rw [if_pos (by omega)]
      rw [hs] at h2; have hl2 : (r.take 2).length = 2 := by rw [List.length_take]; omega
      have hld : ((r.drop 2).take (a0n (r.take 2)).toNat).length = (a0n (r.take 2)).toNat := by
       rw [List.length_take, List.length_drop]
       omega
      refine ⟨?_, by omega, (hr.drop 2).take _, by rw [hld]; omega, by omega, by rw [List.length_cons]; omega, ?_⟩
      ·unfold b4f; rw [if_pos (by omega)]
       rfl
      ·unfold c2c; rw [if_pos (by omega), hld]
       match hr2 : r.take 2, hl2 with
       | [y, z], _ =>
        have hb2 : Bytes [y, z] := by rw [← hr2]; exact hr.take 2
        have hy := hb2 y (by simp); have hz := hb2 z (by simp); have hv : a0n [y, z] = y * 256 + z := by simp [a0n]
        rw [hr2, hv] at hw; rw [hv]; have e1 : (((y * 256 + z).toNat : Nat) : Int) / 256 = y := by omega
        have e2 : (((y * 256 + z).toNat : Nat) : Int) % 256 = z := by omega
        rw [e1, e2]; have hd : (c :: r).drop (3 + (y * 256 + z)).toNat = (r.drop 2).drop (y * 256 + z).toNat := by
         rw [show (3 + (y * 256 + z)).toNat = (2 + (y * 256 + z).toNat) + 1 by omega, List.drop_succ_cons, List.drop_drop]
        rw [hd]
        conv => lhs; rw [← List.take_append_drop 2 r, hr2]
        simp only [List.cons_append, List.nil_append, List.take_append_drop]
theorem c2d {b : List Int} {kind n size : Int} {data : List Int} (hb : Bytes b) (h : X7 b = (kind, n, data, size, 0)) : (c2c kind n data).length = size.toNat := by
 obtain ⟨_, _, _, _, h1, h2, h3⟩ := b8w hb h
 have := congrArg List.length h3
 rw [List.length_append, List.length_drop] at this
 omega
def a2w : Nat → List Int → Int → List Note × Int × Int
 | 0, _, _ => ([], 0, 0)
 | f + 1, b, at_ =>
  if b = [] then ([], 0, 0)
  else if (X7 b).2.2.2.2 = 0 then (⟨(X7 b).1, (X7 b).2.1, (X7 b).2.2.1⟩ :: (a2w f (b.drop (X7 b).2.2.2.1.toNat) (at_ + (X7 b).2.2.2.1)).1, (a2w f (b.drop (X7 b).2.2.2.1.toNat) (at_ + (X7 b).2.2.2.1)).2)
  else ([], at_, (X7 b).2.2.2.2)
def b21 (b : List Int) : List Note × Int × Int := a2w b.length b 0
theorem d3r (f : Nat) : ∀ (b : List Int) (at_ : Int), Bytes b → b.length ≤ f → 0 ≤ at_ →
  (∀ x ∈ (a2w f b at_).1, e7B x ∧ x.f2.length ≤ 65535) ∧ d5n (a2w f b at_).1 = true ∧ tot (a2w f b at_).1 ≤ 5 * b.length ∧ (a2w f b at_).1.length ≤ b.length ∧
  (((a2w f b at_).2 = (0, 0) ∧ b6l (a2w f b at_).1 = b) ∨
   ((a2w f b at_).2.2 ≠ 0 ∧ at_ ≤ (a2w f b at_).2.1 ∧ (a2w f b at_).2.1 < at_ + b.length ∧ b6l (a2w f b at_).1 = b.take ((a2w f b at_).2.1 - at_).toNat)) := by
 induction f with
 | zero =>
  intro b at_ hb hl h0; have : b = [] := List.eq_nil_of_length_eq_zero (by omega); subst this; exact ⟨(fun x hx => by cases hx), rfl, Nat.zero_le _, Nat.zero_le _, .inl ⟨rfl, rfl⟩⟩
 | succ f ih =>
  intro b at_ hb hl h0; rw [a2w]
  by_cases hn : b = []
  ·subst hn; rw [if_pos rfl]; exact ⟨(fun x hx => by cases hx), rfl, Nat.zero_le _, Nat.zero_le _, .inl ⟨rfl, rfl⟩⟩
  ·rw [if_neg hn]
   by_cases he : (X7 b).2.2.2.2 = 0
   ·rw [if_pos he]; obtain ⟨kind, n, data, size, hx⟩ : ∃ kind n data size, X7 b = (kind, n, data, size, 0) := ⟨_, _, _, _, by rw [← he]⟩; obtain ⟨h1, h2, h3, h4, h5, h6, h7⟩ := b8w hb hx; have h8 := c2d hb hx; have hk := d3q h1; obtain ⟨i1, i2, i3, i4, i5⟩ := ih (b.drop size.toNat) (at_ + size) (hb.drop _) (by rw [List.length_drop]; omega) (by omega); have hdl : (b.drop size.toNat).length = b.length - size.toNat := List.length_drop; rw [hdl] at i3 i4; rw [hx]; generalize hr : a2w f (b.drop size.toNat) (at_ + size) = r at i1 i2 i3 i4 i5 ⊢; have hd5 : data.length + 1 ≤ size.toNat := by
     have h9 := h8; unfold c2c at h9; rw [List.length_cons] at h9
     split at h9
     ·simp at h9
      omega
     ·have hd : data = [] := by
       unfold b4f at h1; rw [if_neg (by omega)] at h1
       by_cases h : 0 < data.length
       ·rw [if_pos h] at h1
        cases h1
       ·exact List.eq_nil_of_length_eq_zero (by omega)
      rw [hd]
      simp
      omega
    refine ⟨?_, ?_, ?_, ?_, ?_⟩
    ·intro x hx
     rcases List.mem_cons.1 hx with rfl | hx
     ·exact ⟨⟨⟨by show -9223372036854775808 ≤ kind; omega, by show kind ≤ 9223372036854775807; omega⟩, h2, h3⟩, h4⟩
     ·exact i1 x hx
    ·simp only [d5n, List.all_cons, Bool.and_eq_true, decide_eq_true_eq]
     refine ⟨⟨h1, h4⟩, ?_⟩; have := i2
     simpa only [d5n, List.all_eq_true, Bool.and_eq_true, decide_eq_true_eq] using this
    ·simp only [tot]
     omega
    ·simp only [List.length_cons]
     omega
    ·have hby : b6l (⟨kind, n, data⟩ :: r.1) = c2c kind n data ++ b6l r.1 := rfl
     simp only [hby]
     rcases i5 with ⟨e1, e2⟩ | ⟨e1, e2, e3, e4⟩
     ·left
      exact ⟨e1, by rw [e2]; exact h7.symm⟩
     ·right
      have e3' := e3; rw [hdl] at e3'; refine ⟨e1, by show at_ ≤ r.2.1; omega, by show r.2.1 < at_ + (b.length : Int); omega, ?_⟩
      show c2c kind n data ++ b6l r.1 = b.take (r.2.1 - at_).toNat
      rw [e4]
      conv => rhs; rw [h7]
      rw [List.take_append, List.take_of_length_le (l := c2c kind n data) (by omega)]
      congr 2
      omega
   ·rw [if_neg he]; refine ⟨(fun x hx => by cases hx), rfl, Nat.zero_le _, Nat.zero_le _, .inr ⟨he, Int.le_refl _, ?_, ?_⟩⟩
    ·have : 0 < b.length := List.length_pos_iff.2 hn
     show at_ < at_ + (b.length : Int)
     omega
    ·simp [b6l]
theorem kinds' {k : Int} (h : ¬ (k < 1 ∨ 7 < k)) : k = 1 ∨ k = 2 ∨ k = 3 ∨ k = 4 ∨ k = 5 ∨ k = 6 ∨ k = 7 := by omega
theorem e0p {c : Int} (h : ¬ (c < 1 ∨ 7 < c)) : (Q5 H7 c).f0 = decide (c ≤ 2) := by
 rcases kinds' h with rfl | rfl | rfl | rfl | rfl | rfl | rfl <;> rfl
theorem e0q {c : Int} (h : ¬ (c < 1 ∨ 7 < c)) : (if c ≤ 2 then (2 : Int) else (Q5 H7 c).f1) = sz c := by
 rcases kinds' h with rfl | rfl | rfl | rfl | rfl | rfl | rfl <;> rfl
theorem d5o (c : Int) (r : List Int) (hb : Bytes (c :: r)) (hl : (c :: r).length < 140737488355328) (h1 : ¬ (c < 1 ∨ 7 < c)) (f1 : Int) :
  Ev (fun k => dump_Next.j1 k (c :: r) 1 (sz c : Int) c 0 (decide (c ≤ 2)) f1) (X7 (c :: r)) := by
 have hr : Bytes r := fun x hx => hb x (List.mem_cons_of_mem _ hx)
 have hs := c9G c
 rw [List.length_cons] at hl
 refine Ev.step (fun k => by rw [dump_Next.j1, b8v _ _ _ (by rw [List.length_cons]; omega) (by omega)]) ?_
 simp only [Option.bind_some, X7]
 rw [if_neg h1]
 by_cases h2 : r.length < sz c
 ·rw [if_pos h2]; have : b69 (c :: r) 1 (sz c) = ([], false) := by
   unfold b69; rw [if_neg (by rw [List.length_cons]; omega)]
  simp only [this, Bool.false_eq_true, if_false]
  exact Ev.now _
 ·rw [if_neg h2]; have hc : b69 (c :: r) 1 (sz c) = (r.take (sz c), true) := by
   unfold b69; rw [if_pos (by rw [List.length_cons]; omega)]
   congr 1
  simp only [hc, if_true]
  have hlt : (r.take (sz c)).length = sz c := by rw [List.length_take]; omega
  refine Ev.bind (c5f (r.take (sz c)) (hr.take _) true) ?_; have hg : (if 1 ≤ (r.take (sz c)).length ∧ (r.take (sz c)).length ≤ 8 then (a98 (r.take (sz c)) true, true) else (0, false)).1 = a0n (r.take (sz c)) := by
   by_cases h : 1 ≤ (r.take (sz c)).length ∧ (r.take (sz c)).length ≤ 8
   ·rw [if_pos h]
    rfl
   ·rw [if_neg h]; have : r.take (sz c) = [] := List.eq_nil_of_length_eq_zero (by omega); rw [this]
    rfl
  rw [hg]; have hq := c9H hr c; rw [w64 (x := (1 : Int) + (sz c : Int)) (by omega) (by omega)]
  by_cases h3 : 2 < c
  ·rw [if_pos h3]
   simp only [show decide (c ≤ 2) = false from decide_eq_false (by omega), Bool.false_eq_true, if_false]
   rw [Int.emod_eq_of_lt hq.1 hq.2]; exact Ev.now _
  ·rw [if_neg h3]
   simp only [show decide (c ≤ 2) = true from decide_eq_true (by omega), if_true]
   have hs2 : sz c = 2 := by unfold sz; rw [if_pos (by omega)]
   rw [hs2] at hq hlt ⊢; have hw := word_lt hr; rw [w64 (x := a0n (r.take 2)) (by omega) (by omega)]; rw [b8v _ _ _ (by rw [List.length_cons]; omega) (by omega)]
   simp only [Option.bind_some]
   by_cases h4 : (r.length : Int) < 2 + a0n (r.take 2)
   ·rw [if_pos h4]; have : b69 (c :: r) (1 + ((2 : Nat) : Int)) (a0n (r.take 2)) = ([], false) := by
     unfold b69; rw [if_neg (by rw [List.length_cons]; omega)]
    simp only [this, Bool.false_eq_true, if_false]
    exact Ev.now _
   ·rw [if_neg h4]; have : b69 (c :: r) (1 + ((2 : Nat) : Int)) (a0n (r.take 2)) = ((r.drop 2).take (a0n (r.take 2)).toNat, true) := by
     unfold b69; rw [if_pos (by rw [List.length_cons]; omega)]
     rfl
    simp only [this, if_true]
    rw [w64 (by omega) (by omega)]; rw [show (1 : Int) + ((2 : Nat) : Int) + a0n (r.take 2) = 3 + a0n (r.take 2) by omega]; exact Ev.now _
theorem c7u (b : List Int) (hb : Bytes b) (hl : b.length < 140737488355328) : Ev (fun k => dump_Next.f k b) (X7 b) := by
 cases b with
 | nil =>
  unfold dump_Next.f X7; exact Ev.now _
 | cons c r =>
  have hc := hb c (List.mem_cons_self ..); have hrd : rd (c :: r) 0 = c := rfl; unfold dump_Next.f; rw [List.length_cons] at hl
  simp only [if_neg (show ¬ (((c :: r).length : Int) = 0) by rw [List.length_cons]; omega), if_pos (show 0 < ((c :: r).length : Int) by rw [List.length_cons]; omega), hrd, w64 (show -9223372036854775808 ≤ c by omega) (show c ≤ 9223372036854775807 by omega)]
  by_cases h1 : c < 1 ∨ 7 < c
  ·have e : X7 (c :: r) = (0, 0, [], 0, 7) := by
    simp only [X7]
    rw [if_pos h1]
   rw [e]
   by_cases h2 : c < 1
   ·simp only [if_pos h2]
    exact Ev.step (f := fun _ => some (0, 0, [], 0, 7)) (fun k => by rw [dump_Next.j0, if_pos rfl]) (Ev.now _)
   ·simp only [if_neg h2, show decide (c > 7) = true from decide_eq_true (by omega)]
    exact Ev.step (f := fun _ => some (0, 0, [], 0, 7)) (fun k => by rw [dump_Next.j0, if_pos rfl]) (Ev.now _)
  ·simp only [if_neg (show ¬ c < 1 by omega), show decide (c > 7) = false from decide_eq_false (by omega)]
   refine Ev.step (fun k => by rw [dump_Next.j0, if_neg (by decide), if_pos (by omega), if_pos (by omega), e0p h1]) ?_; have hj := d5o c r hb (by rw [List.length_cons]; omega) h1 (Q5 H7 c).f1
   by_cases h2 : c ≤ 2
   ·simp only [h2, decide_true, if_true]
    have hs2 : sz c = 2 := by unfold sz; rw [if_pos h2]
    rw [hs2] at hj
    simp only [h2, decide_true] at hj
    exact hj
   ·simp only [h2, decide_false, Bool.false_eq_true, if_false]
    have hf := e0q h1; rw [if_neg h2] at hf
    simp only [h2, decide_false, ← hf] at hj
    exact hj
theorem d5p (c : Int) (r : List Int) (hb : Bytes (c :: r)) (hl : (c :: r).length < 140737488355328) (h1 : ¬ (c < 1 ∨ 7 < c)) (h2 : ¬ r.length < sz c) : ∀ (d i : Nat), sz c - i = d → i ≤ sz c →
  Ev (fun k => umpireref10_Next.l0 k (c :: r) c (sz c : Int) (a0n (r.take i)) (i : Int) c 0) (X7 (c :: r)) := by
 have hr : Bytes r := fun x hx => hb x (List.mem_cons_of_mem _ hx)
 have hs := c9G c
 rw [List.length_cons] at hl
 intro d
 induction d with
 | zero =>
  intro i hd hi; have e : i = sz c := by omega
  subst e; refine Ev.step (f := fun _ => some (X7 (c :: r))) (fun k => ?_) (Ev.now _); rw [umpireref10_Next.l0, if_neg (by omega)]
  simp only [X7]
  rw [if_neg h1, if_neg h2]
  by_cases h3 : 2 < c
  ·rw [if_pos h3, if_pos h3, w64 (by omega) (by omega)]
  ·rw [if_neg h3, if_neg h3]; have hs2 : sz c = 2 := by unfold sz; rw [if_pos (by omega)]
   rw [hs2]; have hw := word_lt hr; rw [w64 (x := a0n (r.take 2)) (by omega) (by omega), w64 (x := 3 + a0n (r.take 2)) (by omega) (by omega)]
   by_cases h4 : (r.length : Int) < 2 + a0n (r.take 2)
   ·rw [if_pos h4, if_pos (by rw [List.length_cons]; omega)]
   ·rw [if_neg h4, if_neg (by rw [List.length_cons]; omega), if_pos (by omega), if_pos (by rw [List.length_cons]; omega)]; have hd : ((c :: r).take (3 + a0n (r.take 2)).toNat).drop 3 = (r.drop 2).take (a0n (r.take 2)).toNat := by
     rw [List.drop_take, show (3 + a0n (r.take 2)).toNat - 3 = (a0n (r.take 2)).toNat by omega]
     rfl
    rw [hd, if_pos (by simp; omega)]
    rfl
 | succ d ih =>
  intro i hd hi; have hlt : i < r.length := by omega
  refine Ev.step (f := fun k => umpireref10_Next.l0 k (c :: r) c (sz c : Int) (a0n (r.take (i + 1))) ((i + 1 : Nat) : Int) c 0) (fun k => ?_) (ih (i + 1) (by omega) (by omega)); rw [umpireref10_Next.l0, if_pos (by omega), w64 (x := (1 : Int) + (i : Int)) (by omega) (by omega), if_pos (by omega), if_pos (by rw [List.length_cons]; omega), w64 (x := (i : Int) + 1) (by omega) (by omega)]; have hrd : rd (c :: r) (1 + (i : Int)) = r[i] := by
   rw [show (1 : Int) + (i : Int) = ((i + 1 : Nat) : Int) by omega, a1V (i + 1) (by rw [List.length_cons]; omega)]
   rfl
  have hb1 := hr.get i hlt; have h3 := b46 (hr.take i) (n := 3) (by rw [List.length_take]; omega); rw [show (256 : Int) ^ 3 = 16777216 by decide] at h3; rw [hrd, List.take_succ_eq_append_getElem hlt, a5q]
  congr 1
  omega
theorem c5o {c : Int} (h1 : ¬ (c < 1 ∨ 7 < c)) : rd ([0, 2, 2, 0, 0, 4, 1, 4] : List Int) c = sz c := by
 rcases kinds' h1 with rfl | rfl | rfl | rfl | rfl | rfl | rfl <;> rfl
theorem c2e (b : List Int) (hb : Bytes b) (hl : b.length < 140737488355328) : Ev (fun k => umpireref10_Next.f k b) (X7 b) := by
 cases b with
 | nil =>
  unfold umpireref10_Next.f X7; exact Ev.now _
 | cons c r =>
  have hc := hb c (List.mem_cons_self ..); have hrd : rd (c :: r) 0 = c := rfl; unfold umpireref10_Next.f; have hl2 := hl; rw [List.length_cons] at hl2
  simp only [if_neg (show ¬ (((c :: r).length : Int) = 0) by rw [List.length_cons]; omega), if_pos (show 0 < ((c :: r).length : Int) by rw [List.length_cons]; omega), hrd, w64 (show -9223372036854775808 ≤ c by omega) (show c ≤ 9223372036854775807 by omega)]
  by_cases h1 : c < 1 ∨ 7 < c
  ·have e : X7 (c :: r) = (0, 0, [], 0, 7) := by
    simp only [X7]
    rw [if_pos h1]
   rw [e]
   by_cases h2 : c < 1
   ·simp only [if_pos h2]
    exact Ev.step (f := fun _ => some (0, 0, [], 0, 7)) (fun k => by rw [umpireref10_Next.j0, if_pos rfl]) (Ev.now _)
   ·simp only [if_neg h2, show decide (c > 7) = true from decide_eq_true (by omega)]
    exact Ev.step (f := fun _ => some (0, 0, [], 0, 7)) (fun k => by rw [umpireref10_Next.j0, if_pos rfl]) (Ev.now _)
  ·simp only [if_neg (show ¬ c < 1 by omega), show decide (c > 7) = false from decide_eq_false (by omega)]
   have hs := c9G c; refine Ev.step (fun k => by rw [umpireref10_Next.j0, if_neg (by decide), Option.bind_some, if_pos (by omega), if_pos (show c < (([0, 2, 2, 0, 0, 4, 1, 4] : List Int).length : Int) from (by show c < 8; omega)), c5o h1, w64 (by omega) (by omega)]) ?_
   by_cases h2 : r.length < sz c
   ·have e : X7 (c :: r) = (0, 0, [], 0, 2) := by
     simp only [X7]
     rw [if_neg h1, if_pos h2]
    rw [e]; refine Ev.congr (fun k => if_pos (by rw [List.length_cons]; omega)) ?_; exact Ev.now _
   ·refine Ev.congr (fun k => if_neg (by rw [List.length_cons]; omega)) ?_; exact d5p c r hb hl h1 h2 _ 0 rfl (by omega)
theorem b8x {b : List Int} (hb : Bytes b) (h : (X7 b).2.2.2.2 = 0) : 1 ≤ (X7 b).2.2.2.1 ∧ (X7 b).2.2.2.1 ≤ b.length := by
 obtain ⟨kind, n, data, size, hx⟩ : ∃ kind n data size, X7 b = (kind, n, data, size, 0) := ⟨_, _, _, _, by rw [← h]⟩
 obtain ⟨_, _, _, _, h5, h6, _⟩ := b8w hb hx
 rw [hx]
 exact ⟨h5, h6⟩
theorem c5p (b : List Int) (at_ n : Int) (h0 : 0 ≤ at_) (hn : 0 ≤ n) : (b.drop at_.toNat).drop n.toNat = b.drop (at_ + n).toNat := by
 rw [List.drop_drop]
 congr 1
 omega
theorem c7v (b : List Int) (hb : Bytes b) (hl : b.length < 3518437208883) (f : Nat) : ∀ (at_ : Int) (acc : List Note), 0 ≤ at_ → at_ ≤ b.length → (b.length : Int) - at_ ≤ f → (acc.length : Int) ≤ at_ →
  Ev (fun k => a1N.l0 k b acc at_) (acc ++ (a2w f (b.drop at_.toNat) at_).1, (a2w f (b.drop at_.toNat) at_).2) := by
 induction f with
 | zero =>
  intro at_ acc h0 h1 hf ha; refine Ev.step (f := fun _ => some (acc, 0, 0)) (fun k => ?_) ?_
  ·rw [a1N.l0, if_neg (by omega)]
  ·simp only [a2w, List.append_nil]
   exact Ev.now _
 | succ f ih =>
  intro at_ acc h0 h1 hf ha
  by_cases hlt : at_ < (b.length : Int)
  ·have hne : b.drop at_.toNat ≠ [] := by
    intro h; have := congrArg List.length h; rw [List.length_drop, List.length_nil] at this
    omega
   rw [a2w, if_neg hne]; refine Ev.step (fun k => by rw [a1N.l0, if_pos hlt, if_pos h0, if_pos h1]) ?_; refine Ev.bind (c7u (b.drop at_.toNat) (hb.drop _) (by rw [List.length_drop]; omega)) ?_
   by_cases he : (X7 (b.drop at_.toNat)).2.2.2.2 = 0
   ·simp only [if_pos he]
    obtain ⟨p1, p2⟩ := b8x (hb.drop _) he; rw [List.length_drop] at p2; refine Ev.congr (fun k => if_pos (by omega)) ?_; rw [w64 (by omega) (by omega)]; have h := ih (at_ + (X7 (b.drop at_.toNat)).2.2.2.1) (acc ++ [⟨(X7 (b.drop at_.toNat)).1, (X7 (b.drop at_.toNat)).2.1, (X7 (b.drop at_.toNat)).2.2.1⟩]) (by omega) (by omega) (by omega) (by rw [List.length_append, List.length_cons, List.length_nil]; omega); rw [List.append_assoc] at h; rw [c5p b at_ _ h0 (by omega)]; exact h
   ·simp only [if_neg he, List.append_nil]
    exact Ev.now _
  ·have hnil : b.drop at_.toNat = [] := List.drop_of_length_le (by omega); rw [a2w, if_pos hnil]; refine Ev.step (f := fun _ => some (acc, 0, 0)) (fun k => ?_) ?_
   ·rw [a1N.l0, if_neg hlt]
   ·simp only [List.append_nil]
    exact Ev.now _
theorem c7w (b : List Int) (hb : Bytes b) (hl : b.length < 3518437208883) : Ev (fun k => a1N.f k b) (b21 b) := by
 have := c7v b hb hl b.length 0 [] (by omega) (by omega) (by omega) (by simp)
 simpa [a1N.f, b21] using this
theorem c2f (b : List Int) (hb : Bytes b) (hl : b.length < 3518437208883) (f : Nat) : ∀ (at_ : Int) (acc : List Note), 0 ≤ at_ → at_ ≤ b.length → (b.length : Int) - at_ ≤ f → (acc.length : Int) ≤ at_ →
  Ev (fun k => V8.l0 k b acc at_) (acc ++ (a2w f (b.drop at_.toNat) at_).1, (a2w f (b.drop at_.toNat) at_).2) := by
 induction f with
 | zero =>
  intro at_ acc h0 h1 hf ha; refine Ev.step (f := fun _ => some (acc, 0, 0)) (fun k => ?_) ?_
  ·rw [V8.l0, if_neg (by omega)]
  ·simp only [a2w, List.append_nil]
   exact Ev.now _
 | succ f ih =>
  intro at_ acc h0 h1 hf ha
  by_cases hlt : at_ < (b.length : Int)
  ·have hne : b.drop at_.toNat ≠ [] := by
    intro h; have := congrArg List.length h; rw [List.length_drop, List.length_nil] at this
    omega
   rw [a2w, if_neg hne]; refine Ev.step (fun k => by rw [V8.l0, if_pos hlt, if_pos h0, if_pos h1]) ?_; refine Ev.bind (c2e (b.drop at_.toNat) (hb.drop _) (by rw [List.length_drop]; omega)) ?_
   by_cases he : (X7 (b.drop at_.toNat)).2.2.2.2 = 0
   ·simp only [if_pos he]
    obtain ⟨p1, p2⟩ := b8x (hb.drop _) he; rw [List.length_drop] at p2; refine Ev.congr (fun k => if_pos (by omega)) ?_; rw [w64 (by omega) (by omega)]; have h := ih (at_ + (X7 (b.drop at_.toNat)).2.2.2.1) (acc ++ [⟨(X7 (b.drop at_.toNat)).1, (X7 (b.drop at_.toNat)).2.1, (X7 (b.drop at_.toNat)).2.2.1⟩]) (by omega) (by omega) (by omega) (by rw [List.length_append, List.length_cons, List.length_nil]; omega); rw [List.append_assoc] at h; rw [c5p b at_ _ h0 (by omega)]; exact h
   ·simp only [if_neg he, List.append_nil]
    exact Ev.now _
  ·have hnil : b.drop at_.toNat = [] := List.drop_of_length_le (by omega); rw [a2w, if_pos hnil]; refine Ev.step (f := fun _ => some (acc, 0, 0)) (fun k => ?_) ?_
   ·rw [V8.l0, if_neg hlt]
   ·simp only [List.append_nil]
    exact Ev.now _
theorem c2g (b : List Int) (hb : Bytes b) (hl : b.length < 3518437208883) : Ev (fun k => V8.f k b) (b21 b) := by
 have := c2f b hb hl b.length 0 [] (by omega) (by omega) (by omega) (by simp)
 simpa [V8.f, b21] using this
theorem d3s (p : Int) : Bytes (b03 p true false) := by
 unfold b03
 simp only [Bool.false_eq_true, false_and, if_false, if_true]
 exact (Bytes.cons (by omega) (Bytes.cons (by omega) Bytes.nil)).append (Bytes.cons (by omega) (Bytes.cons (by omega) Bytes.nil))
theorem b8y (p : Int) : (b03 p true false).length = 4 := by
 unfold b03
 simp
theorem d5q (big : Bool) (l : List S51) : ((l.map (c7r big)).flatten).length = c7s l := by
 induction l with
 | nil => rfl
 | cons x l ih => rw [List.map_cons, List.flatten_cons, List.length_append, ih, c5k]; rfl
theorem d5r (big : Bool) (l : List S51) (h : ∀ r ∈ l, (r.f3.length : Int) ≤ 131072) (y : List Int) : c5h big y l = (y ++ (l.map (c7r big)).flatten, 0) := by
 induction l generalizing y with
 | nil => simp [c5h]
 | cons r l ih =>
  unfold c5h; rw [if_neg (by have := h r (List.mem_cons_self ..); omega), ih (fun x hx => h x (List.mem_cons_of_mem _ hx))]
  simp
abbrev Item := S42
def b1B (x : Item) : Bool := (decide (x.f0 = 1 ∨ x.f0 = 2) && a8c x.f1) && decide (x.f2.length ≤ 65531)
theorem b6m (x : Item) : a2Z.f x.f0 x.f1 x.f2 = some (b1B x) := by
 have hd : (decide ((x.f2.length : Int) ≤ 65531)) = decide (x.f2.length ≤ 65531) := by
  rw [Bool.eq_iff_iff, decide_eq_true_iff, decide_eq_true_iff]
  omega
 unfold a2Z.f b1B
 simp only [b0Z, Option.bind_some]
 by_cases h1 : x.f0 = 1
 ·cases hm : a8c x.f1 <;> simp [h1, hd]
 ·by_cases h2 : x.f0 = 2
  ·cases hm : a8c x.f1 <;> simp [h2, hd]
  ·simp [h1, h2]
theorem b7n {x : Item} (h : b1B x = true) : (x.f0 = 1 ∨ x.f0 = 2) ∧ a8c x.f1 = true ∧ x.f2.length ≤ 65531 := by
 unfold b1B at h
 simp only [Bool.and_eq_true, decide_eq_true_eq] at h
 exact ⟨h.1.1, h.1.2, h.2⟩
theorem b8z : ∀ (l : List Item) (j : Nat), (∀ x ∈ l, b1B x = true) → H8.go l j = some (-1)
 | [], _, _ => rfl
 | x :: m, j, h => by
  rw [H8.go, b6m, h x (by simp), Option.bind_some, if_pos rfl]; exact b8z m (j + 1) fun y hy => h y (by simp [hy])
theorem c0J : ∀ (l : List Item) (j : Nat), (∃ x ∈ l, b1B x = false) → ∃ i : Int, 0 ≤ i ∧ H8.go l j = some i
 | [], _, h => by obtain ⟨x, hx, _⟩ := h; cases hx
 | x :: m, j, h => by
  cases hx : b1B x with
  | true =>
   have h2 : ∃ y ∈ m, b1B y = false := by
    obtain ⟨y, hy, hb⟩ := h
    rcases List.mem_cons.1 hy with rfl | hy
    ·rw [hx] at hb; cases hb
    ·exact ⟨y, hy, hb⟩
   obtain ⟨i, h0, hi⟩ := c0J m (j + 1) h2; refine ⟨i, h0, ?_⟩; rw [H8.go, b6m, hx, Option.bind_some, if_pos rfl]; exact hi
  | false =>
   refine ⟨(j : Int), by omega, ?_⟩; rw [H8.go, b6m, hx, Option.bind_some, if_neg (by decide)]
def a6H (x : Item) : List Int := b03 x.f1 true false ++ x.f2
theorem b4g (x : Item) : (a6H x).length = 4 + x.f2.length := by
 unfold a6H
 rw [List.length_append, b8y]
theorem c2h {x : Item} (hb : Bytes x.f2) : Bytes (a6H x) := (d3s x.f1).append hb
theorem c7x (x : Item) (h : b1B x = true) : a13.f x.f0 x.f1 x.f2 = some (a6H x) := by
 obtain ⟨_, hm, hl⟩ := b7n h
 unfold a13.f a6H
 rw [d22, hm, Option.bind_some]
 simp only [if_true]
 rw [if_pos (by rw [b8y]; omega)]
def a7g (out : List Item) (dir : Int) (b : List Int) : List Item := if (b1s b).2.2 = 0 then out ++ [⟨dir, (b1s b).1, (b1s b).2.1⟩] else out
theorem c0K (out : List Item) (dir : Int) (b : List Int) (hb : Bytes b) (hl : b.length < 140737488355328) (ho : out.length < 3518437208883) : Ev (fun k => a1z.f k out dir b) (a7g out dir b) := by
 unfold a1z.f a7g
 refine Ev.bind (d23 b hb hl) ?_
 by_cases c : (b1s b).2.2 = 0
 ·simp only [c, if_true, ho]
  exact Ev.now _
 ·simp only [c, if_false]
  exact Ev.now _
theorem e0r (l : List Item) (i : Nat) (h : i < l.length) : J5 l (i : Int) = l[i] := by
 unfold J5
 rw [Int.toNat_natCast, List.getD_eq_getElem?_getD, List.getElem?_eq_getElem h]
 rfl
def recv (i : Nat) (x : Item) : S51 := ⟨(i : Int), 0, ((a6H x).length + 1 : Nat), (x.f0 - 1) :: a6H x⟩
def a9c : Nat → List Item → List S51
 | _, [] => []
 | i, x :: t => recv i x :: a9c (i + 1) t
theorem b47 : ∀ (l : List Item) (i : Nat), (a9c i l).length = l.length
 | [], _ => rfl
 | x :: t, i => by rw [a9c, List.length_cons, b47 t, List.length_cons]
theorem c0L : ∀ (l : List Item) (i : Nat) (r : S51), r ∈ a9c i l → ∃ j x, x ∈ l ∧ r = recv j x ∧ j < i + l.length
 | [], i, r, h => by cases h
 | x :: t, i, r, h => by
  rw [a9c] at h
  rcases List.mem_cons.1 h with rfl | h
  ·exact ⟨i, x, by simp, rfl, by simp⟩
  ·obtain ⟨j, y, hy, e, hj⟩ := c0L t (i + 1) r h; exact ⟨j, y, by simp [hy], e, by rw [List.length_cons]; omega⟩
theorem b4h : ∀ (l : List Item) (i : Nat), (∀ x ∈ l, b1B x = true) → c7s (a9c i l) ≤ l.length * 65552
 | [], _, _ => Nat.le_refl _
 | x :: t, i, h => by
  have h1 := (b7n (h x (by simp))).2.2; have h2 := b4g x; have h3 := b4h t (i + 1) fun y hy => h y (by simp [hy])
  have h4 : (recv i x).f3.length = (a6H x).length + 1 := rfl; rw [a9c, c7s, List.length_cons]
  omega
theorem e0s (l : List Item) (hn : l.length ≤ 100000) (hm : ∀ x ∈ l, b1B x = true) : ∀ (d i : Nat) (acc : List S51), l.length - i = d → i ≤ l.length → acc.length = i → ∀ {r : List Int × Int}, Ev (fun k => pcap_Put.f k false false 65535 204 (acc ++ a9c i (l.drop i))) r →
  Ev (fun k => F7.l0 k acc l (l.length : Int) (i : Int)) r := by
 intro d
 induction d with
 | zero =>
  intro i acc hd hi ha r hr; obtain rfl : i = l.length := by omega
  rw [List.drop_length, a9c, List.append_nil] at hr; refine Ev.step (fun k => by rw [F7.l0, if_neg (by omega)]) ?_; obtain ⟨r1, r2⟩ := r; exact Ev.bind hr (Ev.now _)
 | succ d ih =>
  intro i acc hd hi ha r hr; have hlt : i < l.length := by omega
  have hmx := hm l[i] (List.getElem_mem hlt); have h1 := b7n hmx; have h2 := b4g l[i]; have e2 : wrap64 ((i : Int) + 1) = ((i + 1 : Nat) : Int) := w64 (by omega) (by omega); have e3 : wrap64 (l[i].f0 - 1) % 256 = l[i].f0 - 1 := by rw [w64 (by omega) (by omega)]; omega
  have e4 : (⟨(i : Int) % 4294967296, 0, ((([l[i].f0 - 1] ++ a6H l[i] : List Int).length : Int)) % 4294967296, [l[i].f0 - 1] ++ a6H l[i]⟩ : S51) = recv i l[i] := by
   unfold recv; rw [List.singleton_append, List.length_cons, Int.emod_eq_of_lt (by omega) (by omega), Int.emod_eq_of_lt (by omega) (by omega)]
  rw [List.drop_eq_getElem_cons hlt, a9c] at hr; have next := ih (i + 1) (acc ++ [recv i l[i]]) (by omega) (by omega) (by rw [List.length_append, List.length_singleton]; omega) (r := r) (by rw [List.append_assoc, List.singleton_append]; exact hr); have g4 : ([l[i].f0 - 1] : List Int).length + (a6H l[i]).length < 140737488355328 := by rw [List.length_singleton]; omega
  refine Ev.step (fun k => ?_) next; rw [F7.l0, if_pos (by omega), if_pos (by omega), if_pos (by omega), e0r l i hlt, e3, Option.bind_some, c7x _ hmx, Option.bind_some, if_pos g4, Option.bind_some, if_pos (by omega), e4, e2]
def b48 (l : List Item) : List Int := a8j false false 65535 204 ++ ((a9c 0 l).map (c7r false)).flatten
theorem c7y (l : List Item) (hn : l.length ≤ 100000) (h : ∀ x ∈ l, b1B x = true ∧ Bytes x.f2) : ∀ r ∈ a9c 0 l, Fine r ∧ Bytes r.f3 := by
 intro r hr
 obtain ⟨j, x, hx, rfl, hj⟩ := c0L l 0 r hr
 obtain ⟨hm, hb⟩ := h x hx
 have h1 := b7n hm
 have h2 := b4g x
 refine ⟨⟨⟨⟨by show (0 : Int) ≤ (j : Int); omega, by show (j : Int) < _; omega⟩, ⟨by show (0 : Int) ≤ 0; omega, by show (0 : Int) < _; omega⟩, ⟨by show (0 : Int) ≤ (((a6H x).length + 1 : Nat) : Int); omega, by show (((a6H x).length + 1 : Nat) : Int) < _; omega⟩⟩, ?_⟩, ?_⟩
 ·show (((a6H x).length + 1 : Nat) : Int) ≤ _
  omega
 ·exact Bytes.cons (by omega) (c2h hb)
theorem c5q (l : List Item) (hn : l.length ≤ 100000) (h : ∀ x ∈ l, b1B x = true ∧ Bytes x.f2) : Ev (fun k => F7.f k 0 0 l) (b48 l, 0) := by
 have hf := c7y l hn h
 have hc := b4h l 0 fun x hx => (h x hx).1
 have hl := b47 l 0
 have hp := c5j false false 65535 204 (a9c 0 l) (by omega) (fun r hr => (hf r hr).1.1) ⟨by omega, by omega⟩ ⟨by omega, by omega⟩ (by omega)
 rw [d5r false (a9c 0 l) (fun r hr => (hf r hr).1.2)] at hp
 unfold F7.f
 exact e0s l hn (fun x hx => (h x hx).1) l.length 0 [] rfl (Nat.zero_le _) rfl hp
def b0a (dir : Int) (rows : List (List Int)) (out : List Item) : List Item := rows.foldl (fun o b => a7g o dir b) out
theorem a8E (out : List Item) (dir : Int) (b : List Int) : (a7g out dir b).length ≤ out.length + 1 := by
 unfold a7g
 split
 ·rw [List.length_append, List.length_singleton]; omega
 ·omega
theorem c0M (dir : Int) : ∀ (rows : List (List Int)) (out : List Item), (∀ b ∈ rows, Bytes b ∧ b.length < 140737488355328) → out.length + rows.length ≤ 3000000000000 → Ev (fun k => capture_notes_read.each k dir rows out) (b0a dir rows out)
 | [], out, _, _ => Ev.now _
 | b :: t, out, h, hn => by
  obtain ⟨hb, hl⟩ := h b (by simp); rw [List.length_cons] at hn; have := a8E out dir b; exact Ev.bind (c0K out dir b hb hl (by omega)) (c0M dir t (a7g out dir b) (fun y hy => h y (by simp [hy])) (by omega))
theorem a7m (dir : Int) : ∀ (rows : List (List Int)) (out : List Item), (b0a dir rows out).length ≤ out.length + rows.length
 | [], out => Nat.le_refl _
 | b :: t, out => by
  have h1 := a8E out dir b; have h2 := a7m dir t (a7g out dir b); rw [List.length_cons]
  show (b0a dir t (a7g out dir b)).length ≤ _
  omega
def bare (s : DF) : DF := { s with done := [] }
theorem b4i (m : Int) (wide : Bool) (s : DF) (a b : List Int) : (X6 m wide s (a ++ b)).done = (X6 m wide s a).done ++ (X6 m wide (bare (X6 m wide s a)) b).done ∧ bare (X6 m wide s (a ++ b)) = bare (X6 m wide (bare (X6 m wide s a)) b) := by
 have e : X6 m wide s (a ++ b) = ahead (X6 m wide s a).done (X6 m wide (bare (X6 m wide s a)) b) := by
  rw [c1Q]
  conv => lhs; rw [c7o (X6 m wide s a), b6N]
  rfl
 rw [e]
 exact ⟨rfl, rfl⟩
theorem c7z (l : List Item) (hl : l.length < 4611686018427387904) : ∀ (d i : Nat), l.length - i = d → i ≤ l.length → Ev (fun k => J8.l0 k l l (i : Int)) true := by
 intro d
 induction d with
 | zero =>
  intro i hd hi; refine Ev.step (f := fun _ => some true) (fun k => ?_) (Ev.now _); rw [J8.l0, if_neg (by omega)]
 | succ d ih =>
  intro i hd hi; refine Ev.step (f := fun k => J8.l0 k l l ((i + 1 : Nat) : Int)) (fun k => ?_) (ih (i + 1) (by omega) (by omega)); rw [J8.l0, if_pos (by omega), if_pos (by omega), if_pos (by omega), if_pos rfl, if_pos rfl, if_pos rfl, w64 (by omega) (by omega)]
  rfl
theorem c7A (l : List Item) (hl : l.length < 4611686018427387904) : Ev (fun k => J8.f k l l) true := by
 unfold J8.f
 simp only [if_true]
 exact c7z l hl _ 0 rfl (by omega)
theorem d3t (form : Int) (hf : form = 1 ∨ form = 2) (l : List Item) (h : ∃ x ∈ l, b1B x = false) (k : Nat) (a0 a1 a2 a3 : Int) (s0 s1 : ByteArray) (dir m : Int) (wide : Bool) :
  capture_Write.f k l form a0 a1 a2 a3 s0 s1 dir m wide = some ([], 1) := by
 obtain ⟨i, h0, hi⟩ := c0J l 0 h
 unfold capture_Write.f
 rcases hf with rfl | rfl
 ·rw [if_pos rfl, hi, Option.bind_some, if_pos h0]
 ·rw [if_neg (by decide), if_pos rfl, hi, Option.bind_some, if_pos h0]
theorem e0t {x : Int} (h : (Lit.int .u32 x).wf = true) : 0 ≤ x ∧ x < 4294967296 := wf_u32 h
theorem e0u {l : List Int} (h : ∀ x ∈ l, (Lit.int .u8 x).wf = true) : Bytes l := d4U h
theorem e0v (n : Nat) : umpirelaw11_awake.f (n + 1000) = some true := by kernel_rfl
theorem c0y : Ev (fun k => umpirelaw11_awake.f k) true := ⟨1000, fun k hk => by
 obtain ⟨n, rfl⟩ : ∃ n, k = n + 1000 := ⟨k - 1000, by omega⟩
 exact e0v n⟩
def e0w (b : List Int) : Prop := Bytes b ∧ b.length ≤ 70000
theorem d3u {u : List Int} (hb : Bytes u) (wide : Bool) : Bytes (a8X u wide).1 ∧ (a8X u wide).1.length ≤ u.length := by
 unfold a8X
 split
 ·exact ⟨hb.take _, by rw [List.length_take]; omega⟩
 ·exact ⟨Bytes.nil, Nat.zero_le _⟩
theorem c5r (m : Int) (wide : Bool) (s : DF) (hb : Bytes s.held) (hd : ∀ b ∈ s.done, e0w b) : ∀ b ∈ (a4x m wide s).done, e0w b := by
 have hu := a81 hb m
 have hz := b1V wide
 have hs := c9E wide
 unfold a4x
 split
 ·split
  ·exact hd
  ·split
   ·exact hd
   ·split
    ·exact hd
    ·rename_i h3
     split
     ·intro b hbm
      rcases List.mem_append.1 hbm with h | h
      ·exact hd b h
      ·rw [List.mem_singleton.1 h]; obtain ⟨o1, o2⟩ := d3u hu wide; exact ⟨o1, by omega⟩
     ·exact hd
 ·exact hd
theorem a9d (m : Int) (wide : Bool) : ∀ (l : List Int) (s : DF), Bytes l → Bytes s.held → (∀ b ∈ s.done, e0w b) → ∀ b ∈ (X6 m wide s l).done, e0w b
 | [], s, _, _, hd => hd
 | c :: l, s, hl, hs, hd => by
  have hc := hl c (by simp); have ht : Bytes l := fun x hx => hl x (by simp [hx])
  rw [a88]; refine a9d m wide l _ ht (b1W hs hc) ?_; unfold a4g
  split
  ·split
   ·exact c5r m wide s hs hd
   ·exact hd
  ·split
   ·exact hd
   ·exact hd
def gov (m : Int) (wide : Bool) : List Note → DF → DF → List Item → List Item
 | [], _, _, out => out
 | x :: t, s, g, out =>
  if x.f0 = 1 then gov m wide t (bare (X6 0 wide s x.f2)) g (b0a 2 (X6 0 wide s x.f2).done out)
  else if x.f0 = 2 then gov m wide t s (bare (X6 m wide g x.f2)) (b0a 1 (X6 m wide g x.f2).done out)
  else if x.f0 = 3 then gov m wide t DF.init g out
  else if x.f0 = 4 then gov m wide t s DF.init out
  else gov m wide t s g out
theorem c0N (m : Int) (wide : Bool) (h0 : 0 ≤ m) (h1 : m < 4294967296) (dir : Int) (s : DF) (b : List Int) (out : List Item) {α : Type} (H : Nat → DF → List Item → Option α) (r : α) (hb : Bytes b) (hd : s.done = []) (hs : Bytes s.held) (hl : s.held.length + b.length ≤ 1000000000) (ho : out.length + b.length ≤ 1000000000)
  (hr : Ev (fun k => H k (bare (X6 m wide s b)) (b0a dir (X6 m wide s b).done out)) r) :
  Ev (fun k => (DF.feed k m wide s b).bind fun s' => (capture_notes_read.each k dir s'.done out).bind fun o => H k (bare s') o) r := by
 have hds : s.done.length = 0 := by rw [hd]; rfl
 have hh := a2e m wide b s hb hs
 have hy := a9d m wide b s hb hs (by rw [hd]; intro x hx; cases hx)
 refine Ev.bind (c0H m wide h0 h1 b s hb hs (by omega) (by omega)) ?_
 exact Ev.bind (c0M dir _ out (fun x hx => ⟨(hy x hx).1, by have := (hy x hx).2; omega⟩) (by omega)) hr
theorem b23 (m : Int) (wide : Bool) (h0 : 0 ≤ m) (h1 : m < 4294967296) : ∀ (ns : List Note) (s g : DF) (out : List Item), (∀ x ∈ ns, Bytes x.f2) → s.done = [] → g.done = [] → Bytes s.held → Bytes g.held →
  s.held.length + tot ns ≤ 1000000000 → g.held.length + tot ns ≤ 1000000000 → out.length + tot ns ≤ 1000000000 → Ev (fun k => capture_notes_read.go k m wide ns s g out) (gov m wide ns s g out)
 | [], s, g, out, _, _, _, _, _, _, _, _ => Ev.now _
 | x :: t, s, g, out, hn, hs1, hg1, hs2, hg2, hs3, hg3, ho => by
  have hx := hn x (by simp); have ht : ∀ y ∈ t, Bytes y.f2 := fun y hy => hn y (by simp [hy])
  simp only [tot] at hs3 hg3 ho
  have i1 : Bytes DF.init.held := Bytes.nil; have i2 : DF.init.held.length = 0 := rfl; unfold gov; unfold capture_notes_read.go
  by_cases a1 : x.f0 = 1
  ·simp only [a1, if_true]
   have hh := a2e 0 wide x.f2 s hx hs2; have hel := a7m 2 (X6 0 wide s x.f2).done out; have hds : s.done.length = 0 := by rw [hs1]; rfl
   exact c0N 0 wide (by decide) (by decide) 2 s x.f2 out (fun k s o => capture_notes_read.go k m wide t s g o) _ hx hs1 hs2 (by omega) (by omega)
    (b23 m wide h0 h1 t (bare (X6 0 wide s x.f2)) g _ ht rfl hg1 hh.1 hg2 (by show (X6 0 wide s x.f2).held.length + _ ≤ _; omega) (by omega) (by omega))
  ·rw [if_neg a1]; refine Ev.congr (fun k => if_neg a1) ?_
   by_cases a2 : x.f0 = 2
   ·simp only [a2, if_true]
    have hh := a2e m wide x.f2 g hx hg2; have hel := a7m 1 (X6 m wide g x.f2).done out; have hdg : g.done.length = 0 := by rw [hg1]; rfl
    exact c0N m wide h0 h1 1 g x.f2 out (fun k g o => capture_notes_read.go k m wide t s g o) _ hx hg1 hg2 (by omega) (by omega)
     (b23 m wide h0 h1 t s (bare (X6 m wide g x.f2)) _ ht hs1 rfl hs2 hh.1 (by omega) (by show (X6 m wide g x.f2).held.length + _ ≤ _; omega) (by omega))
   ·rw [if_neg a2]; refine Ev.congr (fun k => if_neg a2) ?_
    by_cases a3 : x.f0 = 3
    ·rw [if_pos a3]; refine Ev.congr (fun k => if_pos a3) ?_; exact b23 m wide h0 h1 t DF.init g out ht rfl hg1 i1 hg2 (by omega) (by omega) (by omega)
    ·rw [if_neg a3]; refine Ev.congr (fun k => if_neg a3) ?_
     by_cases a4 : x.f0 = 4
     ·rw [if_pos a4]; refine Ev.congr (fun k => if_pos a4) ?_; exact b23 m wide h0 h1 t s DF.init out ht hs1 rfl hs2 i1 (by omega) (by omega) (by omega)
     ·rw [if_neg a4]; refine Ev.congr (fun k => if_neg a4) ?_; exact b23 m wide h0 h1 t s g out ht hs1 hg1 hs2 hg2 (by omega) (by omega) (by omega)
theorem b8A (l rest : List Int) (at_ : Nat) (hr : l.drop at_ = rest) (hat : at_ ≤ 2) (hb : Bytes rest) : Ev (fun k => G8.j1 k l (at_ : Int) 0 0) (a5E rest at_) := by
 refine Ev.step (f := fun _ => some (a5E rest at_)) (fun k => ?_) (Ev.now _)
 rw [G8.j1]
 have hlen : rest.length = l.length - at_ := by rw [← hr, List.length_drop]
 have f1P : ∀ i : Nat, i < rest.length → rd l ((at_ + i : Nat) : Int) = rest.getD i 0 := by
  intro i hi; rw [a1V (at_ + i) (by omega), List.getD_eq_getElem?_getD, List.getElem?_eq_getElem hi]
  simp only [← hr, List.getElem_drop, Option.getD_some]
 unfold a5E
 cases rest with
 | nil =>
  simp only [List.length_nil] at hlen
  rw [if_pos (by omega)]
 | cons a t =>
  simp only [List.length_cons] at hlen
  have ha := hb a (by simp); have h0 : rd l (at_ : Int) = a := by simpa using f1P 0 (by simp)
  rw [if_neg (by omega), if_pos (by omega), if_pos (by omega), h0, w64 (x := a) (by omega) (by omega), Int.tmod_eq_emod_of_nonneg ha.1]
  by_cases o : a % 2 = 1
  ·simp only [o, if_true]
   by_cases f : a = 255
   ·simp [f]
   ·simp only [f, if_false]
    rw [w64 (by omega) (by omega)]
  ·simp only [o, if_false]
   rw [w64 (x := (at_ : Int) + 1) (by omega) (by omega)]
   cases t with
   | nil =>
    simp only [List.length_nil] at hlen
    rw [if_pos (by omega)]
   | cons b r =>
    simp only [List.length_cons] at hlen
    have hbb := hb b (by simp); have h1 : rd l ((at_ : Int) + 1) = b := by simpa using f1P 1 (by simp)
    rw [if_neg (by omega), if_pos (by omega), if_pos (by omega), h1, w64 (x := b) (by omega) (by omega), Int.tmod_eq_emod_of_nonneg hbb.1]
    by_cases e : b % 2 = 0
    ·simp [e]
    ·simp only [e, if_false, false_or]
     rw [w64 (x := 256 * a) (by omega) (by omega), w64 (x := 256 * a + b) (by omega) (by omega), w64 (by omega) (by omega)]
     by_cases z : a = 0
     ·by_cases y : b = 255
      ·simp [z, y]
      ·simp [z, y]
     ·simp [z]
theorem b49 (l : List Int) (hb : Bytes l) : Ev (fun k => G8.f k l) (a3J l) := by
 unfold G8.f a3J
 cases l with
 | nil =>
  simp only [List.length_nil, show ¬ (((0 : Nat) : Int) > 0) by decide, if_false]
  refine Ev.step (f := fun k => G8.j1 k [] 0 0 0) (fun k => by rw [G8.j0, if_neg (by decide)]) ?_; exact b8A [] [] 0 rfl (by decide) Bytes.nil
 | cons a t =>
  simp only [show ((a :: t).length : Int) > 0 by simp <;> omega, show (0 : Int) < ((a :: t).length : Int) by simp <;> omega, if_true, rd0]
  by_cases c : a = 255
  ·subst c
   simp only [beq_self_eq_true, if_true]
   cases t with
   | nil =>
    refine Ev.step (f := fun _ => some (0, 0, 2)) (fun k => ?_) (Ev.now _); rw [G8.j0, if_pos rfl, if_pos (by simp <;> omega)]
   | cons b r =>
    by_cases d : b = 3
    ·subst d
     simp only [if_true]
     refine Ev.step (f := fun k => G8.j1 k (255 :: 3 :: r) 2 0 0) (fun k => ?_) ?_
     ·rw [G8.j0, if_pos rfl, if_neg (by simp <;> omega), if_pos (by simp <;> omega), rd1, if_pos rfl]
     ·exact b8A (255 :: 3 :: r) r 2 rfl (by decide) (fun x hx => hb x (by simp [hx]))
    ·simp only [d, if_false]
     refine Ev.step (f := fun _ => some (0, 0, 3)) (fun k => ?_) (Ev.now _); rw [G8.j0, if_pos rfl, if_neg (by simp <;> omega), if_pos (by simp <;> omega), rd1, if_neg d]
  ·have : (a == 255) = false := by simpa using c
   simp only [this, c, if_false]
   refine Ev.step (f := fun k => G8.j1 k (a :: t) 0 0 0) (fun k => by rw [G8.j0, if_neg (by decide)]) ?_; exact b8A (a :: t) (a :: t) 0 rfl (by decide) hb
theorem b1Y : ∀ (l : List Int) (i : Bool) (h : List Int), Bytes l → Bytes h → (a6e i h l).length ≤ l.length ∧ ∀ f ∈ a6e i h l, Bytes f ∧ f.length ≤ h.length + l.length
 | [], i, h, _, _ => by
  unfold a6e
  simp
 | c :: l, true, h, hl, hh => by
  have hc := hl c (by simp); have ht : Bytes l := fun x hx => hl x (by simp [hx])
  rw [a6e]
  by_cases b : c = 126
  ·rw [if_pos b]; have e := b1Y l true [] ht Bytes.nil; refine ⟨by simp only [List.length_cons]; omega, fun f hf => ?_⟩
   rcases List.mem_cons.1 hf with rfl | hf
   ·exact ⟨hh, by omega⟩
   ·have := e.2 f hf; rw [List.length_nil] at this; exact ⟨this.1, by rw [List.length_cons]; omega⟩
  ·rw [if_neg b]; have e := b1Y l true (h ++ [c]) ht (hh.append (Bytes.cons hc Bytes.nil)); refine ⟨by rw [List.length_cons]; omega, fun f hf => ?_⟩; have := e.2 f hf; rw [List.length_append, List.length_singleton] at this; exact ⟨this.1, by rw [List.length_cons]; omega⟩
 | c :: l, false, h, hl, hh => by
  have ht : Bytes l := fun x hx => hl x (by simp [hx])
  rw [a6e]
  by_cases b : c = 126
  ·rw [if_pos b]; have e := b1Y l true h ht hh; refine ⟨by rw [List.length_cons]; omega, fun f hf => ?_⟩; have := e.2 f hf; exact ⟨this.1, by rw [List.length_cons]; omega⟩
  ·rw [if_neg b]; have e := b1Y l false h ht hh; refine ⟨by rw [List.length_cons]; omega, fun f hf => ?_⟩; have := e.2 f hf; exact ⟨this.1, by rw [List.length_cons]; omega⟩
theorem d5s (b : List Int) (n i : Nat) (hn : n ≤ i) (hi : i < b.length) : (b.take (i + 1)).drop n = (b.take i).drop n ++ [b[i]] := by
 rw [List.take_succ_eq_append_getElem hi, List.drop_append_of_le_length (by rw [List.length_take]; omega)]
theorem c2i (b : List Int) (hl : b.length ≤ 1000000000) : ∀ (d i : Nat) (acc : List (List Int)), b.length - i = d → i ≤ b.length → acc.length ≤ i →
  (Ev (fun k => J4.l0 k b acc (-1) (i : Int)) (acc ++ a6e false [] (b.drop i))) ∧ ∀ n : Nat, n ≤ i → Ev (fun k => J4.l0 k b acc (n : Int) (i : Int)) (acc ++ a6e true ((b.take i).drop n) (b.drop i)) := by
 intro d
 induction d with
 | zero =>
  intro i acc hd hi ha; have e : b.drop i = [] := List.drop_eq_nil_of_le (by omega); have s1 : a6e false [] ([] : List Int) = [] := by rw [a6e]
  have s2 : ∀ h : List Int, a6e true h ([] : List Int) = [] := fun h => by rw [a6e]
  refine ⟨Ev.step (f := fun _ => some acc) (fun k => ?_) (by rw [e, s1, List.append_nil]; exact Ev.now _), fun n hn => Ev.step (f := fun _ => some acc) (fun k => ?_) (by rw [e, s2, List.append_nil]; exact Ev.now _)⟩
  ·rw [J4.l0, if_neg (by omega)]
  ·rw [J4.l0, if_neg (by omega)]
 | succ d ih =>
  intro i acc hd hi ha; have hlt : i < b.length := by omega
  have g1 : ((i : Nat) : Int) < ((b.length : Nat) : Int) := by omega
  have g2 : (0 : Int) ≤ ((i : Nat) : Int) := by omega
  have g3 : ((i : Nat) : Int) ≤ ((b.length : Nat) : Int) := by omega
  have ga : acc.length < 5864062014805 := by omega
  have hdr : b.drop i = b[i] :: b.drop (i + 1) := List.drop_eq_getElem_cons hlt; have n1 := ih (i + 1) acc (by omega) (by omega) (by omega); have n2 := fun x : List Int => ih (i + 1) (acc ++ [x]) (by omega) (by omega) (by rw [List.length_append, List.length_singleton]; omega)
  have ns : ∀ n : Nat, n ≤ i → (((n : Nat) : Int) ≥ 0 ∧ (0 : Int) ≤ ((n : Nat) : Int) ∧ ((n : Nat) : Int) ≤ ((i : Nat) : Int)) := fun n hn => ⟨by omega, by omega, by omega⟩
  have em : (b.take (i + 1)).drop (i + 1) = [] := List.drop_eq_nil_of_le (by rw [List.length_take]; omega); have e1 : wrap64 ((i : Int) + 1) = ((i + 1 : Nat) : Int) := w64 (by omega) (by omega)
  by_cases c : b[i] = 126
  ·refine ⟨?_, fun n hn => ?_⟩
   ·have nx := n1.2 (i + 1) (Nat.le_refl _); rw [em] at nx; rw [hdr, a6e, if_pos c]; refine Ev.step (fun k => ?_) nx; rw [J4.l0, if_pos g1, if_pos g2, a1V i hlt, if_pos c, if_neg (by decide), e1]
   ·have nx := (n2 ((b.take i).drop n)).2 (i + 1) (Nat.le_refl _); rw [em, List.append_assoc, List.singleton_append] at nx; obtain ⟨a1, a2, a3⟩ := ns n hn; rw [hdr, a6e, if_pos c]; refine Ev.step (fun k => ?_) nx; rw [J4.l0, if_pos g1, if_pos g2, a1V i hlt, if_pos c, if_pos a1, if_pos a2, if_pos a3, if_pos g3, if_pos ga, e1, Int.toNat_natCast, Int.toNat_natCast]
  ·refine ⟨?_, fun n hn => ?_⟩
   ·rw [hdr, a6e, if_neg c]; refine Ev.step (fun k => ?_) n1.1; rw [J4.l0, if_pos g1, if_pos g2, a1V i hlt, if_neg c, e1]
   ·have nx := n1.2 n (Nat.le_succ_of_le hn); rw [d5s b n i hn hlt] at nx; rw [hdr, a6e, if_neg c]; refine Ev.step (fun k => ?_) nx; rw [J4.l0, if_pos g1, if_pos g2, a1V i hlt, if_neg c, e1]
theorem c2j (b : List Int) (hl : b.length ≤ 1000000000) : Ev (fun k => J4.f k b) (a6e false [] b) := (c2i b hl b.length 0 [] (by omega) (by omega) (by simp)).1
def a8d (m : Int) (wide : Bool) (f : List Int) : List Int × Int :=
 if (f.filter fun c => !a6d m c).length = 0 then ([], 0)
 else if (Y0 f m).2 = true then
  if ((Y0 f m).1.length : Int) < DF.size wide + 2 then ([], 3)
  else if ((Y0 f m).1.length : Int) > DF.size wide + 65535 then ([], 4)
  else if (a8X (Y0 f m).1 wide).2 = true then ((a8X (Y0 f m).1 wide).1, 1) else ([], 5)
 else ([], 2)
theorem c7B (m : Int) (wide : Bool) (h0 : 0 ≤ m) (h1 : m < 4294967296) (f : List Int) (hb : Bytes f) (hl : f.length ≤ 1000000000) : Ev (fun k => a2g.f k f m wide) (a8d m wide f) := by
 have hu := a81 hb m
 have hz := DF.size_le wide
 have hs : O6.f wide = some (DF.size wide) := by rw [b2Y, c9E]
 have g1 : f.length < 70368744177664 := by omega
 have q : ¬ ((Y0 f m).1.length : Int) > DF.size wide + 65535 → (Y0 f m).1.length ≤ 100000 := fun h => by omega
 have e1 : wrap64 (DF.size wide + 2) = DF.size wide + 2 := w64 (by omega) (by omega)
 have e2 : wrap64 (DF.size wide + 65535) = DF.size wide + 65535 := w64 (by omega) (by omega)
 unfold a2g.f
 refine Ev.bind (c0D f m hb h0 h1 g1) ?_
 unfold a8d
 by_cases a : (f.filter fun c => !a6d m c).length = 0
 ·have a2 : (((f.filter fun c => !a6d m c).length : Nat) : Int) = 0 := by rw [a]; rfl
  simp only [a, a2, if_true]
  exact Ev.now _
 ·have a2 : ¬ (((f.filter fun c => !a6d m c).length : Nat) : Int) = 0 := fun h => a (Int.ofNat_inj.1 h)
  rw [if_neg a]
  simp only [a2, if_false]
  refine Ev.bind (b95 f m hb h0 h1 g1) ?_
  by_cases b : (Y0 f m).2 = true
  ·simp only [b, if_true, hs, Option.bind_some, e1, e2]
   by_cases c : ((Y0 f m).1.length : Int) < DF.size wide + 2
   ·simp only [c, if_true]
    exact Ev.now _
   ·simp only [c, if_false]
    by_cases d : ((Y0 f m).1.length : Int) > DF.size wide + 65535
    ·simp only [d, if_true]
     exact Ev.now _
    ·simp only [d, if_false]
     refine Ev.bind (c7n _ wide hu (q d)) ?_
     by_cases e : (a8X (Y0 f m).1 wide).2 = true
     ·simp only [e, if_true]
      exact Ev.now _
     ·simp only [e, if_false]
      exact Ev.now _
  ·simp only [b, if_false]
   exact Ev.now _
def tj (s : DF) (p : List Int × Int) : DF :=
 { s with done := if p.2 = 1 then s.done ++ [p.1] else s.done, tg := if p.2 = 1 then wrap64 (s.tg + 1) else s.tg, ta := if p.2 = 2 then wrap64 (s.ta + 1) else s.ta, ts := if p.2 = 3 then wrap64 (s.ts + 1) else s.ts, tl := if p.2 = 4 then wrap64 (s.tl + 1) else s.tl, tw := if p.2 = 5 then wrap64 (s.tw + 1) else s.tw }
theorem e0x (s : DF) (p : List Int × Int) : (tj s p).done = if p.2 = 1 then s.done ++ [p.1] else s.done := rfl
theorem f1Q (s : DF) (p : List Int × Int) : (tj s p).tg = if p.2 = 1 then wrap64 (s.tg + 1) else s.tg := rfl
theorem f1R (s : DF) (p : List Int × Int) : (tj s p).ta = if p.2 = 2 then wrap64 (s.ta + 1) else s.ta := rfl
theorem f1S (s : DF) (p : List Int × Int) : (tj s p).ts = if p.2 = 3 then wrap64 (s.ts + 1) else s.ts := rfl
theorem f1T (s : DF) (p : List Int × Int) : (tj s p).tl = if p.2 = 4 then wrap64 (s.tl + 1) else s.tl := rfl
theorem f1U (s : DF) (p : List Int × Int) : (tj s p).tw = if p.2 = 5 then wrap64 (s.tw + 1) else s.tw := rfl
theorem d3v : ∀ (n : Nat) (l acc : List Int), l.length ≤ n → (a6t l acc).2 = true → acc.length + (if l = [] then 0 else 1) ≤ (a6t l acc).1.length := by
 intro n
 induction n with
 | zero =>
  intro l acc hl h; obtain rfl : l = [] := List.eq_nil_of_length_eq_zero (by omega)
  simp [a6t]
 | succ n ih =>
  intro l acc hl h
  cases l with
  | nil => simp [a6t]
  | cons c t =>
   rw [List.length_cons] at hl; rw [if_neg (by simp)]; rw [a5r] at h ⊢
   by_cases a : c = 126
   ·rw [if_pos a] at h
    cases h
   ·rw [if_neg a] at h ⊢
    by_cases b : c = 125
    ·rw [if_pos b] at h ⊢
     cases t with
     | nil => cases h
     | cons d t' =>
      rw [List.length_cons] at hl
      simp only [] at h ⊢
      by_cases e : d = 126
      ·rw [if_pos e] at h
       cases h
      ·rw [if_neg e] at h ⊢; have := ih t' _ (by omega) h; rw [List.length_append, List.length_singleton] at this
       omega
    ·rw [if_neg b] at h ⊢; have := ih t _ (by omega) h; rw [List.length_append, List.length_singleton] at this
     omega
theorem c0O (m : Int) (f : List Int) (h : (Y0 f m).2 = true) : (Y0 f m).1.length = 0 ↔ (f.filter fun c => !a6d m c).length = 0 := by
 unfold Y0 at h ⊢
 rw [(b4d m f).1 []] at h ⊢
 constructor
 ·intro h2; have := d3v _ _ [] (Nat.le_refl _) h
  by_cases e : (f.filter fun c => !a6d m c) = []
  ·rw [e]
   rfl
  ·rw [if_neg e] at this
   omega
 ·intro h2; rw [List.eq_nil_of_length_eq_zero h2]
  simp [a6t]
theorem d3w (m : Int) (f : List Int) (h : (f.filter fun c => !a6d m c).length = 0) : (Y0 f m).2 = true := by
 unfold Y0
 rw [(b4d m f).1 [], List.eq_nil_of_length_eq_zero h]
 simp [a6t]
theorem c5t (m : Int) (wide : Bool) (s : DF) (f : List Int) : tally m wide (norm s) f = tj (norm s) (a8d m wide f) := by
 unfold tally a8d
 by_cases a : (f.filter fun c => !a6d m c).length = 0
 ·have u := d3w m f a; have v := (c0O m f u).2 a; unfold a4x
  simp only [a, u, v, if_true]
  rfl
 ·rw [if_neg a]
  by_cases b : (Y0 f m).2 = true
  ·have v : ¬ (Y0 f m).1.length = 0 := fun h => a ((c0O m f b).1 h)
   unfold a4x
   simp only [b, v, if_true, if_false]
   by_cases c : ((Y0 f m).1.length : Int) < DF.size wide + 2
   ·simp only [c, if_true]
    rfl
   ·simp only [c, if_false]
    by_cases d : ((Y0 f m).1.length : Int) > DF.size wide + 65535
    ·simp only [d, if_true]
     rfl
    ·simp only [d, if_false]
     by_cases e : (a8X (Y0 f m).1 wide).2 = true
     ·simp only [e, if_true]
      rfl
     ·simp only [e, if_false]
      rfl
  ·unfold a4x
   simp only [b, if_false]
   rfl
theorem e0y (s : DF) (p : List Int × Int) : tj (norm s) p = norm (tj (norm s) p) := rfl
theorem b8B (m : Int) (wide : Bool) : ∀ (l : List (List Int)) (s : DF), l.foldl (tally m wide) (norm s) = l.foldl (fun s f => tj s (a8d m wide f)) (norm s)
 | [], _ => rfl
 | f :: l, s => by
  rw [List.foldl_cons, List.foldl_cons, c5t, e0y]; exact b8B m wide l _
def outv (s : DF) : (List (List Int)) × Int × Int × Int × Int × Int := (s.done, s.tg, s.ta, s.ts, s.tl, s.tw)
theorem d5t (m : Int) (wide : Bool) (l : List (List Int)) (i : Nat) (hi : i < 9223372036854775807) (x : List (List Int)) (v t0 t1 t2 t3 t4 : Int) (r : (List (List Int)) × Int × Int × Int × Int × Int)
  (h : Ev (fun k => umpireref07_All.l0 k m wide x l ((i + 1 : Nat) : Int) t0 (if v = 2 then wrap64 (t1 + 1) else t1) (if v = 3 then wrap64 (t2 + 1) else t2) (if v = 4 then wrap64 (t3 + 1) else t3) (if v = 5 then wrap64 (t4 + 1) else t4)) r) : Ev (fun k => umpireref07_All.j1 k m wide x l (i : Int) v t0 t1 t2 t3 t4) r := by
 have e : wrap64 ((i : Int) + 1) = ((i + 1 : Nat) : Int) := w64 (by omega) (by omega)
 refine Ev.step (f := fun k => umpireref07_All.j2 k m wide x l (i : Int) v t0 (if v = 2 then wrap64 (t1 + 1) else t1) t2 t3 t4) (fun k => ?_) (Ev.step (f := fun k => umpireref07_All.j3 k m wide x l (i : Int) v t0 (if v = 2 then wrap64 (t1 + 1) else t1) (if v = 3 then wrap64 (t2 + 1) else t2) t3 t4) (fun k => ?_) (Ev.step (fun k => ?_) h))
 ·rw [umpireref07_All.j1]
  by_cases a : v = 2
  ·rw [if_pos a, if_pos a]
  ·rw [if_neg a, if_neg a]
 ·rw [umpireref07_All.j2]
  by_cases a : v = 3
  ·rw [if_pos a, if_pos a]
  ·rw [if_neg a, if_neg a]
 ·rw [umpireref07_All.j3, e]
  by_cases a : v = 4
  ·by_cases b : v = 5
   ·rw [if_pos a, if_pos b, if_pos a, if_pos b]
   ·rw [if_pos a, if_neg b, if_pos a, if_neg b]
  ·by_cases b : v = 5
   ·rw [if_neg a, if_pos b, if_neg a, if_pos b]
   ·rw [if_neg a, if_neg b, if_neg a, if_neg b]
theorem d3x (m : Int) (wide : Bool) (h0 : 0 ≤ m) (h1 : m < 4294967296) (l : List (List Int)) (hn : l.length ≤ 1000000000) (hb : ∀ f ∈ l, Bytes f ∧ f.length ≤ 1000000000) : ∀ (d i : Nat) (s : DF), l.length - i = d → i ≤ l.length → s.done.length ≤ i →
  Ev (fun k => umpireref07_All.l0 k m wide s.done l (i : Int) s.tg s.ta s.ts s.tl s.tw) (outv ((l.drop i).foldl (fun s f => tj s (a8d m wide f)) s)) := by
 intro d
 induction d with
 | zero =>
  intro i s hd hi hs; rw [List.drop_eq_nil_of_le (by omega), List.foldl_nil]; refine Ev.step (f := fun _ => some (s.done, s.tg, s.ta, s.ts, s.tl, s.tw)) (fun k => ?_) (Ev.now _); rw [umpireref07_All.l0, if_neg (by omega)]
 | succ d ih =>
  intro i s hd hi hs; have hlt : i < l.length := by omega
  have g1 : ((i : Nat) : Int) < ((l.length : Nat) : Int) := by omega
  have g2 : (0 : Int) ≤ ((i : Nat) : Int) := by omega
  have ga : s.done.length < 5864062014805 := by omega
  have gi : i < 9223372036854775807 := by omega
  obtain ⟨hbi, hli⟩ := hb l[i] (List.getElem_mem hlt); have hsd : (tj s (a8d m wide l[i])).done.length ≤ i + 1 := by
   unfold tj
   simp only []
   split
   ·rw [List.length_append, List.length_singleton]
    omega
   ·omega
  have next := ih (i + 1) (tj s (a8d m wide l[i])) (by omega) (by omega) hsd; rw [List.drop_eq_getElem_cons hlt, List.foldl_cons]; refine Ev.step (fun k => by rw [umpireref07_All.l0, if_pos g1, if_pos g2, e0l l i hlt]) ?_; refine Ev.bind (c7B m wide h0 h1 l[i] hbi hli) ?_; rw [e0x, f1Q, f1R, f1S, f1T, f1U] at next
  by_cases a : (a8d m wide l[i]).2 = 1
  ·rw [if_pos a, if_pos a] at next; exact Ev.congr (f := fun k => umpireref07_All.j1 k m wide (s.done ++ [(a8d m wide l[i]).1]) l (i : Int) (a8d m wide l[i]).2 (wrap64 (s.tg + 1)) s.ta s.ts s.tl s.tw) (fun k => by rw [if_pos a, if_pos ga]) (d5t m wide l i gi _ _ _ _ _ _ _ _ next)
  ·rw [if_neg a, if_neg a] at next; exact Ev.congr (f := fun k => umpireref07_All.j1 k m wide s.done l (i : Int) (a8d m wide l[i]).2 s.tg s.ta s.ts s.tl s.tw) (fun k => by rw [if_neg a]) (d5t m wide l i gi _ _ _ _ _ _ _ _ next)
theorem d3y (m : Int) (wide : Bool) (h0 : 0 ≤ m) (h1 : m < 4294967296) (b : List Int) (hb : Bytes b) (hl : b.length ≤ 100000000) : Ev (fun k => umpireref07_All.f k b m wide) (g2L m wide b) := by
 have hs := b1Y b false [] hb Bytes.nil
 have hs2 : ∀ f ∈ a6e false [] b, Bytes f ∧ f.length ≤ 1000000000 := fun f hf => ⟨(hs.2 f hf).1, by have := (hs.2 f hf).2; rw [List.length_nil] at this; omega⟩
 have g1 : b.length ≤ 1000000000 := by omega
 have g2 : (a6e false [] b).length ≤ 1000000000 := by omega
 unfold umpireref07_All.f
 refine Ev.bind (c2j b g1) ?_
 have h := d3x m wide h0 h1 (a6e false [] b) g2 hs2 (a6e false [] b).length 0 (norm DF.init) rfl (Nat.zero_le _) (Nat.le_refl _)
 rw [List.drop_zero, ← b8B] at h
 have e := a9a m wide b DF.init (fun _ => rfl)
 rw [show (a6e DF.init.inn DF.init.held b) = a6e false [] b from rfl] at e
 rw [← e] at h
 exact h
theorem b6n (out : List Item) (dir : Int) (b : List Int) (hb : Bytes b) (hl : b.length < 140737488355328) (ho : out.length < 3518437208883) : Ev (fun k => J9.f k out dir b) (a7g out dir b) := by
 unfold J9.f a7g
 by_cases c : (a3J b).2.2 = 0
 ·obtain ⟨h1, h2⟩ := d4Z b c; have e : b1s b = ((a3J b).1, b.drop (a3J b).2.1.toNat, 0) := by unfold b1s; rw [if_pos c]
  rw [e, if_pos rfl]; refine Ev.bind (b49 b hb) ?_; refine Ev.congr (fun k => if_pos c) ?_; refine Ev.congr (fun k => if_pos (by omega)) ?_; refine Ev.congr (fun k => if_pos h1) ?_; refine Ev.congr (fun k => if_pos (by rw [List.length_nil, List.length_drop]; omega)) ?_; refine Ev.congr (fun k => if_pos ho) ?_; rw [List.nil_append]; exact Ev.now _
 ·have e : b1s b = (0, [], (a3J b).2.2) := by unfold b1s; rw [if_neg c]
  rw [e, if_neg c]; refine Ev.bind (b49 b hb) ?_; refine Ev.congr (fun k => if_neg c) ?_; exact Ev.now _
theorem d3z (out : List Item) (dir : Int) : a7g out dir [] = out := rfl
def c2k (dir link : Int) : List S51 → List Item → List Item
 | [], out => out
 | x :: t, out => c2k dir link t (a7g out (capture_records_read.of dir link x.f3).1 (capture_records_read.of dir link x.f3).2)
theorem of_sub (dir link : Int) (d : List Int) (hb : Bytes d) (N : Nat) (hn : d.length < N) : Bytes (capture_records_read.of dir link d).2 ∧ (capture_records_read.of dir link d).2.length < N := by
 unfold capture_records_read.of
 split
 ·exact ⟨hb.drop _, by show (d.drop 1).length < N; rw [List.length_drop]; omega⟩
 ·exact ⟨hb, hn⟩
theorem c5u (dir link : Int) : ∀ (l : List S51) (out : List Item), (∀ r ∈ l, Bytes r.f3 ∧ r.f3.length < 140737488355328) → out.length + l.length ≤ 3000000000000 → Ev (fun k => capture_records_read.go k dir link l out) (c2k dir link l out)
 | [], out, _, _ => Ev.now _
 | x :: t, out, h, hn => by
  obtain ⟨hb, hl⟩ := h x (by simp); obtain ⟨o1, o2⟩ := of_sub dir link x.f3 hb _ hl; rw [List.length_cons] at hn; have := a8E out (capture_records_read.of dir link x.f3).1 (capture_records_read.of dir link x.f3).2; exact Ev.bind (c0K out _ _ o1 o2 (by omega)) (c5u dir link t _ (fun y hy => h y (by simp [hy])) (by omega))
theorem c9I (dir link : Int) : ∀ (l : List S51) (out : List Item), (∀ r ∈ l, Bytes r.f3 ∧ r.f3.length < 140737488355328) → out.length + l.length ≤ 3000000000000 → Ev (fun k => H6.go k dir link l out) (c2k dir link l out)
 | [], out, _, _ => Ev.now _
 | x :: t, out, h, hn => by
  obtain ⟨hb, hl⟩ := h x (by simp); obtain ⟨o1, o2⟩ := of_sub dir link x.f3 hb _ hl; rw [List.length_cons] at hn; have hil := a8E out (capture_records_read.of dir link x.f3).1 (capture_records_read.of dir link x.f3).2; have ih := c9I dir link t (a7g out (capture_records_read.of dir link x.f3).1 (capture_records_read.of dir link x.f3).2) (fun y hy => h y (by simp [hy])) (by omega); unfold c2k
  by_cases h4 : link = 204
  ·by_cases hp : 0 < x.f3.length
   ·have e : capture_records_read.of dir link x.f3 = (if rd x.f3 0 = 0 then 1 else 2, x.f3.drop 1) := by unfold capture_records_read.of; rw [if_pos ⟨h4, hp⟩]
    rw [e] at o1 o2 ih ⊢; refine Ev.congr (f := fun k => (J9.f k out (if rd x.f3 0 = 0 then 1 else 2) (x.f3.drop 1)).bind fun o => H6.go k dir link t o) (fun k => ?_) ?_
    ·rw [H6.go, if_pos h4, if_pos hp]
    ·exact Ev.bind (b6n out _ _ o1 o2 (by omega)) ih
   ·have hz : x.f3 = [] := List.eq_nil_of_length_eq_zero (by omega); have e : capture_records_read.of dir link x.f3 = (dir, x.f3) := by unfold capture_records_read.of; rw [if_neg (fun hh => hp hh.2)]
    rw [e] at ih ⊢; rw [hz, d3z] at ih ⊢; refine Ev.congr (f := fun k => H6.go k dir link t out) (fun k => ?_) ih; rw [H6.go, if_pos h4, if_neg hp]
  ·have e : capture_records_read.of dir link x.f3 = (dir, x.f3) := by unfold capture_records_read.of; rw [if_neg (fun hh => h4 hh.1)]
   rw [e] at o1 o2 ih ⊢; refine Ev.congr (f := fun k => (J9.f k out dir x.f3).bind fun o => H6.go k dir link t o) (fun k => ?_) ?_
   ·rw [H6.go, if_neg h4]
   ·exact Ev.bind (b6n out _ _ o1 o2 (by omega)) ih
theorem c7C (l : List Int) (hb : Bytes l) (big : Bool) : Bytes (a2f l big).2.2.2.1 ∧ (a2f l big).2.2.2.1.length ≤ l.length := by
 unfold a2f
 (repeat' split)
 ·exact ⟨Bytes.nil, Nat.zero_le _⟩
 ·exact ⟨Bytes.nil, Nat.zero_le _⟩
 ·exact ⟨Bytes.nil, Nat.zero_le _⟩
 ·exact ⟨(hb.drop _).take _, by rw [List.length_take, List.length_drop]; omega⟩
theorem c5v (big : Bool) (l : List Int) (hb : Bytes l) : ∀ (f : Nat) (acc : List S51) (i : Nat), (∀ r ∈ acc, Bytes r.f3 ∧ r.f3.length ≤ l.length) →
  (∀ r ∈ (b1t big f l acc i).1, Bytes r.f3 ∧ r.f3.length ≤ l.length) ∧ ((b1t big f l acc i).2 = (0, 0) ∨ (b1t big f l acc i).2.2 ≠ 0)
 | 0, acc, i, h => ⟨h, .inl rfl⟩
 | f + 1, acc, i, h => by
  unfold b1t
  by_cases h1 : i < l.length
  ·rw [if_pos h1]
   by_cases h2 : (a2f (l.drop i) big).2.2.2.2.2 = 0
   ·rw [if_pos h2]; have hd := c7C (l.drop i) (hb.drop i) big; rw [List.length_drop] at hd; refine c5v big l hb f _ _ (fun r hr => ?_)
    rcases List.mem_append.1 hr with hr | hr
    ·exact h r hr
    ·rw [List.mem_singleton.1 hr]; exact ⟨hd.1, by have := hd.2; show (a2f (l.drop i) big).2.2.2.1.length ≤ l.length; omega⟩
   ·rw [if_neg h2]; exact ⟨h, .inr h2⟩
  ·rw [if_neg h1]; exact ⟨h, .inl rfl⟩
theorem d5u (l : List Int) (hb : Bytes l) : (∀ r ∈ (a6G l).2.2.2.2.1, Bytes r.f3 ∧ r.f3.length ≤ l.length) ∧ ((a6G l).2.2.2.2.2 = (0, 0) ∨ (a6G l).2.2.2.2.2.2 ≠ 0) := by
 unfold a6G
 by_cases h : (a3K l).2.2.2.2 = 0
 ·rw [if_pos h]; exact c5v _ l hb _ [] 24 (fun r hr => by cases hr)
 ·rw [if_neg h]; exact ⟨fun r hr => (by cases hr), .inr h⟩
theorem b6O (out : List Item) (dir : Int) (b : List Int) (ho : ∀ x ∈ out, Bytes x.f2) (hb : Bytes b) : ∀ x ∈ a7g out dir b, Bytes x.f2 := by
 unfold a7g
 split
 ·intro x hx
  rcases List.mem_append.1 hx with hx | hx
  ·exact ho x hx
  ·rw [List.mem_singleton.1 hx]
   show Bytes (b1s b).2.1
   unfold b1s
   split
   ·exact hb.drop _
   ·exact Bytes.nil
 ·exact ho
theorem b8C (dir link : Int) : ∀ (l : List S51) (out : List Item), (∀ r ∈ l, Bytes r.f3 ∧ r.f3.length < 140737488355328) → (∀ x ∈ out, Bytes x.f2) → ∀ x ∈ c2k dir link l out, Bytes x.f2
 | [], out, _, ho => ho
 | x :: t, out, h, ho => by
  obtain ⟨hb, hl⟩ := h x (by simp); obtain ⟨o1, o2⟩ := of_sub dir link x.f3 hb _ hl; exact b8C dir link t _ (fun y hy => h y (by simp [hy])) (b6O out _ _ ho o1)
theorem b1Z (dir : Int) : ∀ (rows : List (List Int)) (out : List Item), (∀ b ∈ rows, Bytes b) → (∀ x ∈ out, Bytes x.f2) → ∀ x ∈ b0a dir rows out, Bytes x.f2
 | [], out, _, ho => ho
 | b :: t, out, h, ho => b1Z dir t (a7g out dir b) (fun y hy => h y (by simp [hy])) (b6O out dir b ho (h b (by simp)))
theorem a8F (m : Int) (wide : Bool) : ∀ (ns : List Note) (s g : DF) (out : List Item), (∀ x ∈ ns, Bytes x.f2) → s.done = [] → g.done = [] → Bytes s.held → Bytes g.held → (∀ x ∈ out, Bytes x.f2) → ∀ x ∈ gov m wide ns s g out, Bytes x.f2
 | [], s, g, out, _, _, _, _, _, ho => by unfold gov; exact ho
 | x :: t, s, g, out, hn, hs, hg, hsb, hgb, ho => by
  have hx := hn x (by simp); have ht : ∀ y ∈ t, Bytes y.f2 := fun y hy => hn y (by simp [hy])
  have ks := a2e 0 wide x.f2 s hx hsb; have kg := a2e m wide x.f2 g hx hgb; have rs := a9d 0 wide x.f2 s hx hsb (by rw [hs]; intro b hb; cases hb); have rg := a9d m wide x.f2 g hx hgb (by rw [hg]; intro b hb; cases hb); unfold gov
  split
  ·exact a8F m wide t (bare (X6 0 wide s x.f2)) g _ ht rfl hg ks.1 hgb (b1Z 2 _ out (fun b hb => (rs b hb).1) ho)
  ·split
   ·exact a8F m wide t s (bare (X6 m wide g x.f2)) _ ht hs rfl hsb kg.1 (b1Z 1 _ out (fun b hb => (rg b hb).1) ho)
   ·split
    ·exact a8F m wide t DF.init g out ht rfl hg Bytes.nil hgb ho
    ·split
     ·exact a8F m wide t s DF.init out ht hs rfl hsb Bytes.nil ho
     ·exact a8F m wide t s g out ht hs hg hsb hgb ho
theorem c2l (b : List Int) (hb : Bytes b) (hl : b.length ≤ 4000) (dir m : Int) (wide : Bool) (c0 c1 c2 c3 : Int) (e0 e1 : ByteArray) :
  ∃ r : List Item × Int × Int, (r.1.length ≤ 100000 ∧ ∀ x ∈ r.1, Bytes x.f2) ∧ Ev (fun k => capture_records_read.f k b dir) r ∧ Ev (fun k => H6.f k b c0 c1 c2 c3 e0 e1 dir m wide) r := by
 have hp := c5g b hb (by omega)
 have hr := c1Y b hb (by omega)
 obtain ⟨o1, o2⟩ := d5u b hb
 have o3 := c2a b hb
 unfold capture_records_read.f H6.f
 generalize a6G b = t at hp hr o1 o2 o3
 by_cases h2 : t.2.2.2.2.2.2 = 0
 ·have hz : t.2.2.2.2.2 = (0, 0) := o2.elim id (fun h => absurd h2 h); have h1 : t.2.2.2.2.2.1 = 0 := by rw [hz]
  have g1 : ¬ (!(t.2.2.2.2.2.1 == 0) || (!(t.2.2.2.2.2.2 == 0))) = true := by rw [h1, h2]; decide
  by_cases ho : capture_records_read.odd t.2.2.2.1 = true
  ·refine ⟨([], 20, 7), ⟨by simp, fun x hx => (by cases hx)⟩, ?_, ?_⟩
   ·refine Ev.bind hp ?_; refine Ev.congr (fun k => if_neg g1) ?_; refine Ev.congr (fun k => if_pos ho) ?_; exact Ev.now _
   ·refine Ev.bind hr ?_; refine Ev.congr (fun k => if_pos h2) ?_; refine Ev.congr (fun k => if_pos ho) ?_; exact Ev.now _
  ·have hq : ∀ r ∈ t.2.2.2.2.1, Bytes r.f3 ∧ r.f3.length < 140737488355328 := fun r hr2 => ⟨(o1 r hr2).1, by have := (o1 r hr2).2; omega⟩
   have hlen : ∀ (l : List S51) (out : List Item), (c2k dir t.2.2.2.1 l out).length ≤ out.length + l.length := by
    intro l
    induction l with
    | nil => intro out; exact Nat.le_refl _
    | cons x l ih =>
     intro out; have h3 := ih (a7g out (capture_records_read.of dir t.2.2.2.1 x.f3).1 (capture_records_read.of dir t.2.2.2.1 x.f3).2); have h4 := a8E out (capture_records_read.of dir t.2.2.2.1 x.f3).1 (capture_records_read.of dir t.2.2.2.1 x.f3).2; rw [c2k, List.length_cons]
     omega
   refine ⟨(c2k dir t.2.2.2.1 t.2.2.2.2.1 [], 0, 0), ?_, ?_, ?_⟩
   ·have := hlen t.2.2.2.2.1 []; rw [List.length_nil] at this; refine ⟨?_, b8C dir _ _ [] hq (fun x hx => (by cases hx))⟩
    show (c2k dir t.2.2.2.1 t.2.2.2.2.1 []).length ≤ _
    omega
   ·refine Ev.bind hp ?_; refine Ev.congr (fun k => if_neg g1) ?_; refine Ev.congr (fun k => if_neg ho) ?_; exact Ev.bind (c5u dir _ _ [] hq (by rw [List.length_nil]; omega)) (Ev.now _)
   ·refine Ev.bind hr ?_; refine Ev.congr (fun k => if_pos h2) ?_; refine Ev.congr (fun k => if_neg ho) ?_; refine Ev.bind (c9I dir _ _ [] hq (by rw [List.length_nil]; omega)) ?_; rw [hz]; exact Ev.now _
 ·have g1 : (!(t.2.2.2.2.2.1 == 0) || (!(t.2.2.2.2.2.2 == 0))) = true := by
   have : (t.2.2.2.2.2.2 == 0) = false := by simpa using h2
   rw [this]; simp
  refine ⟨([], t.2.2.2.2.2.1, t.2.2.2.2.2.2), ⟨by simp, fun x hx => (by cases hx)⟩, ?_, ?_⟩
  ·refine Ev.bind hp ?_; refine Ev.congr (fun k => if_pos g1) ?_; exact Ev.now _
  ·refine Ev.bind hr ?_; refine Ev.congr (fun k => if_neg h2) ?_; exact Ev.now _
theorem b8D (dir : Int) : ∀ (rows : List (List Int)) (out : List Item), (∀ b ∈ rows, Bytes b ∧ b.length < 140737488355328) → out.length + rows.length ≤ 3000000000000 → Ev (fun k => umpireref11_notes.each k dir rows out) (b0a dir rows out)
 | [], out, _, _ => Ev.now _
 | b :: t, out, h, hn => by
  obtain ⟨hb, hl⟩ := h b (by simp); rw [List.length_cons] at hn; have := a8E out dir b; exact Ev.bind (b6n out dir b hb hl (by omega)) (b8D dir t (a7g out dir b) (fun y hy => h y (by simp [hy])) (by omega))
theorem b8E (m : Int) (wide : Bool) (h0 : 0 ≤ m) (h1 : m < 4294967296) (b : List Int) (hb : Bytes b) (hl : b.length ≤ 100000000) : Ev (fun k => X8.f k b m wide) (X6 m wide DF.init b).done :=
 Ev.bind (d3y m wide h0 h1 b hb hl) (Ev.now _)
theorem c5w (m : Int) (wide : Bool) (h0 : 0 ≤ m) (h1 : m < 4294967296) (dir : Int) (a b : List Int) (out : List Item) {α : Type} (H : Nat → List Int → List Item → Option α) (r : α) (ha : Bytes a) (hb : Bytes b) (hl : a.length + b.length ≤ 100000000) (ho : out.length + a.length + b.length ≤ 1000000000)
  (hr : Ev (fun k => H k (a ++ b) (b0a dir (X6 m wide (bare (X6 m wide DF.init a)) b).done out)) r) :
  Ev (fun k => (X8.f k a m wide).bind fun was => if a.length + b.length < 140737488355328 then (X8.f k (a ++ b) m wide).bind fun now => (umpireref11_notes.each k dir (now.drop was.length) out).bind fun o => H k (a ++ b) o else none) r := by
 refine Ev.bind (b8E m wide h0 h1 a ha (by omega)) ?_
 refine Ev.congr (fun k => if_pos (by omega)) ?_
 refine Ev.bind (b8E m wide h0 h1 (a ++ b) (ha.append hb) (by rw [List.length_append]; omega)) ?_
 obtain ⟨f1, f2⟩ := b4i m wide DF.init a b
 rw [f1, List.drop_left]
 have hh := a2e m wide a DF.init ha Bytes.nil
 have hy := a9d m wide b (bare (X6 m wide DF.init a)) hb hh.1 (fun x hx => (by cases hx))
 have hk := a2e m wide b (bare (X6 m wide DF.init a)) hb hh.1
 have e1 : (bare (X6 m wide DF.init a)).done.length = 0 := rfl
 exact Ev.bind (b8D dir _ out (fun x hx => ⟨(hy x hx).1, by have := (hy x hx).2; omega⟩) (by have := hk.2.2; omega)) hr
theorem b24 (m : Int) (wide : Bool) (h0 : 0 ≤ m) (h1 : m < 4294967296) : ∀ (ns : List Note) (a c : List Int) (out : List Item), (∀ x ∈ ns, Bytes x.f2) → Bytes a → Bytes c → a.length + tot ns ≤ 100000000 → c.length + tot ns ≤ 100000000 → out.length + a.length + c.length + 2 * tot ns ≤ 1000000000 →
  Ev (fun k => umpireref11_notes.go k m wide ns a c out) (gov m wide ns (bare (X6 0 wide DF.init a)) (bare (X6 m wide DF.init c)) out)
 | [], a, c, out, _, _, _, _, _, _ => Ev.now _
 | x :: t, a, c, out, hn, ha, hc, hla, hlc, ho => by
  have hx := hn x (by simp); have ht : ∀ y ∈ t, Bytes y.f2 := fun y hy => hn y (by simp [hy])
  simp only [tot] at hla hlc ho
  have i0 : ∀ q : Int, bare (X6 q wide DF.init []) = DF.init := fun q => rfl
  unfold gov; unfold umpireref11_notes.go
  by_cases a3 : x.f0 = 3
  ·rw [if_neg (by omega), if_neg (by omega), if_pos a3]; refine Ev.congr (fun k => if_pos a3) ?_; have := b24 m wide h0 h1 t [] c out ht Bytes.nil hc (by rw [List.length_nil]; omega) (by omega) (by rw [List.length_nil]; omega); rw [i0] at this; exact this
  ·refine Ev.congr (fun k => if_neg a3) ?_
   by_cases a4 : x.f0 = 4
   ·rw [if_neg (by omega), if_neg (by omega), if_neg a3, if_pos a4]; refine Ev.congr (fun k => if_pos a4) ?_; have := b24 m wide h0 h1 t a [] out ht ha Bytes.nil (by omega) (by rw [List.length_nil]; omega) (by rw [List.length_nil]; omega); rw [i0] at this; exact this
   ·refine Ev.congr (fun k => if_neg a4) ?_
    by_cases a1 : x.f0 = 1
    ·rw [if_pos a1]; refine Ev.congr (fun k => if_pos a1) ?_; have hk := a2e 0 wide x.f2 (bare (X6 0 wide DF.init a)) hx (a2e 0 wide a DF.init ha Bytes.nil).1; have e1 : (bare (X6 0 wide DF.init a)).done.length = 0 := rfl; have hel := a7m 2 (X6 0 wide (bare (X6 0 wide DF.init a)) x.f2).done out; have ih := b24 m wide h0 h1 t (a ++ x.f2) c (b0a 2 (X6 0 wide (bare (X6 0 wide DF.init a)) x.f2).done out) ht (ha.append hx) hc (by rw [List.length_append]; omega) (by omega) (by rw [List.length_append]; have := hk.2.2; omega); rw [(b4i 0 wide DF.init a x.f2).2] at ih; exact c5w 0 wide (by decide) (by decide) 2 a x.f2 out (fun k s o => umpireref11_notes.go k m wide t s c o) _ ha hx (by omega) (by omega) ih
    ·rw [if_neg a1]; refine Ev.congr (fun k => if_neg a1) ?_
     by_cases a2 : x.f0 = 2
     ·rw [if_pos a2]; refine Ev.congr (fun k => if_pos a2) ?_; have hk := a2e m wide x.f2 (bare (X6 m wide DF.init c)) hx (a2e m wide c DF.init hc Bytes.nil).1; have e1 : (bare (X6 m wide DF.init c)).done.length = 0 := rfl; have hel := a7m 1 (X6 m wide (bare (X6 m wide DF.init c)) x.f2).done out; have ih := b24 m wide h0 h1 t a (c ++ x.f2) (b0a 1 (X6 m wide (bare (X6 m wide DF.init c)) x.f2).done out) ht ha (hc.append hx) (by omega) (by rw [List.length_append]; omega) (by rw [List.length_append]; have := hk.2.2; omega); rw [(b4i m wide DF.init c x.f2).2] at ih; exact c5w m wide h0 h1 1 c x.f2 out (fun k s o => umpireref11_notes.go k m wide t a s o) _ hc hx (by omega) (by omega) ih
     ·rw [if_neg a2, if_neg a3, if_neg a4]; refine Ev.congr (fun k => if_neg a2) ?_; exact b24 m wide h0 h1 t a c out ht ha hc (by omega) (by omega) (by omega)
theorem b26 (m : Int) (wide : Bool) : ∀ (ns : List Note) (s g : DF) (out : List Item), (∀ x ∈ ns, Bytes x.f2) → s.done = [] → g.done = [] → Bytes s.held → Bytes g.held → (gov m wide ns s g out).length ≤ out.length + tot ns
 | [], s, g, out, _, _, _, _, _ => by unfold gov; omega
 | x :: t, s, g, out, hn, hs, hg, hsb, hgb => by
  have hx := hn x (by simp); have ht : ∀ y ∈ t, Bytes y.f2 := fun y hy => hn y (by simp [hy])
  have ks := a2e 0 wide x.f2 s hx hsb; have kg := a2e m wide x.f2 g hx hgb; have es := a7m 2 (X6 0 wide s x.f2).done out; have eg := a7m 1 (X6 m wide g x.f2).done out; have zs : s.done.length = 0 := by rw [hs]; rfl
  have zg : g.done.length = 0 := by rw [hg]; rfl
  simp only [tot]
  unfold gov
  split
  ·have := b26 m wide t (bare (X6 0 wide s x.f2)) g (b0a 2 (X6 0 wide s x.f2).done out) ht rfl hg ks.1 hgb; have := ks.2.2
   omega
  ·split
   ·have := b26 m wide t s (bare (X6 m wide g x.f2)) (b0a 1 (X6 m wide g x.f2).done out) ht hs rfl hsb kg.1; have := kg.2.2
    omega
   ·split
    ·have := b26 m wide t DF.init g out ht rfl hg Bytes.nil hgb
     omega
    ·split
     ·have := b26 m wide t s DF.init out ht hs rfl hsb Bytes.nil
      omega
     ·have := b26 m wide t s g out ht hs hg hsb hgb
      omega
theorem c7D (b : List Int) (hb : Bytes b) (hl : b.length ≤ 4000) (dir m : Int) (wide : Bool) (h0 : 0 ≤ m) (h1 : m < 4294967296) (c0 c1 c2 c3 : Int) (e0 e1 : ByteArray) :
  ∃ r : List Item × Int × Int, (r.1.length ≤ 100000 ∧ ∀ x ∈ r.1, Bytes x.f2) ∧ Ev (fun k => capture_notes_read.f k b m wide) r ∧ Ev (fun k => umpireref11_notes.f k b c0 c1 c2 c3 e0 e1 dir m wide) r := by
 have hp := c7w b hb (by omega)
 have hr := c2g b hb (by omega)
 obtain ⟨o1, _, o3, _, o5⟩ := d3r b.length b 0 hb (Nat.le_refl _) (by omega)
 have e : a2w b.length b 0 = b21 b := rfl
 rw [e] at o1 o3 o5
 unfold capture_notes_read.f umpireref11_notes.f
 generalize b21 b = t at hp hr o1 o3 o5
 by_cases h2 : t.2.2 = 0
 ·have hz : t.2 = (0, 0) := o5.elim (fun h => h.1) (fun h => absurd h2 h.1); have ht1 : t.2.1 = 0 := by rw [hz]
  have g1 : ¬ (!(t.2.1 == 0) || (!(t.2.2 == 0))) = true := by rw [ht1, h2]; decide
  have i0 : ∀ q : Int, bare (X6 q wide DF.init []) = DF.init := fun q => rfl
  have hz2 : DF.init.held.length = 0 := rfl; have hb2 : ∀ x ∈ t.1, Bytes x.f2 := fun x hx => (o1 x hx).1.2.2
  have hn := b24 m wide h0 h1 t.1 [] [] [] hb2 Bytes.nil Bytes.nil (by rw [List.length_nil]; omega) (by rw [List.length_nil]; omega) (by simp only [List.length_nil]; omega); rw [i0, i0] at hn; have hg := b23 m wide h0 h1 t.1 DF.init DF.init [] hb2 rfl rfl Bytes.nil Bytes.nil (by omega) (by omega) (by rw [List.length_nil]; omega); have hlen := b26 m wide t.1 DF.init DF.init [] hb2 rfl rfl Bytes.nil Bytes.nil; refine ⟨(gov m wide t.1 DF.init DF.init [], 0, 0), ?_, ?_, ?_⟩
  ·rw [List.length_nil] at hlen; refine ⟨?_, a8F m wide t.1 DF.init DF.init [] hb2 rfl rfl Bytes.nil Bytes.nil (fun x hx => (by cases hx))⟩
   show (gov m wide t.1 DF.init DF.init []).length ≤ _
   omega
  ·refine Ev.bind hp ?_; refine Ev.congr (fun k => if_neg g1) ?_; exact Ev.bind hg (Ev.now _)
  ·refine Ev.bind hr ?_; refine Ev.congr (fun k => if_pos h2) ?_; refine Ev.bind hn ?_; rw [hz]; exact Ev.now _
 ·have g1 : (!(t.2.1 == 0) || (!(t.2.2 == 0))) = true := by
   have : (t.2.2 == 0) = false := by simpa using h2
   rw [this]; simp
  refine ⟨([], t.2.1, t.2.2), ⟨by simp, fun x hx => (by cases hx)⟩, ?_, ?_⟩
  ·refine Ev.bind hp ?_; refine Ev.congr (fun k => if_pos g1) ?_; exact Ev.now _
  ·refine Ev.bind hr ?_; refine Ev.congr (fun k => if_neg h2) ?_; exact Ev.now _
theorem c66 (b : List Int) (hb : Bytes b) (hl : b.length ≤ 4000) (form : Int) (dir m : Int) (wide : Bool) (h0 : 0 ≤ m) (h1 : m < 4294967296) (c0 c1 c2 c3 : Int) (e0 e1 : ByteArray) :
  ∃ r : List Item × Int × Int, (r.1.length ≤ 100000 ∧ ∀ x ∈ r.1, Bytes x.f2) ∧ Ev (fun k => a0H.f k b form c0 c1 c2 c3 e0 e1 dir m wide) r ∧ Ev (fun k => a1K.f k b form c0 c1 c2 c3 e0 e1 dir m wide) r := by
 unfold a0H.f a1K.f
 by_cases f1 : form = 1
 ·obtain ⟨r, r1, r2, r3⟩ := c2l b hb hl dir m wide c0 c1 c2 c3 e0 e1; refine ⟨r, r1, Ev.congr (fun k => if_pos f1) r2, Ev.congr (fun k => if_pos f1) ?_⟩; exact Ev.bind r3 (Ev.now _)
 ·by_cases f2 : form = 2
  ·obtain ⟨r, r1, r2, r3⟩ := c7D b hb hl dir m wide h0 h1 c0 c1 c2 c3 e0 e1; refine ⟨r, r1, Ev.congr (fun k => if_neg f1) (Ev.congr (fun k => if_pos f2) r2), Ev.congr (fun k => if_neg f1) (Ev.congr (fun k => if_pos f2) ?_)⟩; exact Ev.bind r3 (Ev.now _)
  ·exact ⟨([], 0, 7), ⟨by simp, fun x hx => (by cases hx)⟩, Ev.congr (fun k => if_neg f1) (Ev.congr (fun k => if_neg f2) (Ev.now _)), Ev.congr (fun k => if_neg f1) (Ev.congr (fun k => if_neg f2) (Ev.now _))⟩
theorem d98 (l : List Item) (hl : l.length < 4611686018427387904) : Ev (fun k => J8.f k l l) true := c7A l hl
theorem d97 {x : Int} (h : (Lit.int .u32 x).wf = true) : 0 ≤ x ∧ x < 4294967296 := e0t h
theorem d4T {l : List Int} (h : ∀ x ∈ l, (Lit.int .u8 x).wf = true) : Bytes l := e0u h
theorem write_any (c0 c1 c2 c3 : Int) (e0 e1 : ByteArray) (dir m : Int) (wide : Bool) (l : List Item) (hn : l.length ≤ 100000) (hb : ∀ x ∈ l, Bytes x.f2) : ∃ z : List Int × Int, z.1.length ≤ 9000000000000000 ∧ Ev (fun k => capture_Write.f k l 1 c0 c1 c2 c3 e0 e1 dir m wide) z := by
 by_cases hm : ∀ x ∈ l, b1B x = true
 ·have h : ∀ x ∈ l, b1B x = true ∧ Bytes x.f2 := fun x hx => ⟨hm x hx, hb x hx⟩
  have hi := b8z l 0 hm; have hc := b4h l 0 hm; have hh := b06 false false 65535 204; have hrl := d5q false (a9c 0 l); refine ⟨(b48 l, 0), ?_, Ev.congr (fun k => ?_) (c5q l hn h)⟩
  ·show (b48 l).length ≤ _
   unfold b48; rw [List.length_append, hh, hrl]
   omega
  ·unfold capture_Write.f; rw [if_pos rfl, hi, Option.bind_some, if_neg (by decide)]
 ·have h : ∃ x ∈ l, b1B x = false := by
   apply Classical.byContradiction
   intro hno; exact hm (fun x hx => by
    cases hq : b1B x with
    | true => rfl
    | false => exact absurd ⟨x, hx, hq⟩ hno)
  exact ⟨([], 1), by simp, Ev.congr (f := fun _ => some ([], 1)) (fun k => d3t 1 (.inl rfl) l h k c0 c1 c2 c3 e0 e1 dir m wide) (Ev.now _)⟩
end Go.Proofs.YtgnonglkibhnhaaDoor.Q
