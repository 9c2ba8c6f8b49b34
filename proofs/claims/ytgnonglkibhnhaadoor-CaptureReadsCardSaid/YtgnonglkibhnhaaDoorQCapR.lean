/- Plain lemmas of this claim. -/
import Derived.Test.YtgnonglkibhnhaaDoorF9
namespace Go.Proofs.YtgnonglkibhnhaaDoor.Q
open Go.RowKit Go.Proofs.YtgnonglkibhnhaaDoor.Print Go.Proofs.YtgnonglkibhnhaaDoorW.PrintWords Go.Proofs.YtgnonglkibhnhaaDoorW.PrintLast Go.Proofs.YtgnonglkibhnhaaDoorW.PrintMore
set_option linter.unusedVariables false
set_option linter.unusedSimpArgs false
theorem wf_u8 {x : Int} (h : (Lit.int .u8 x).wf = true) : 0 ≤ x ∧ x < 256 := by
 simp [Lit.wf, IntKind.min, IntKind.max, IntKind.bits, IntKind.signed] at h; omega
theorem wf_u32 {x : Int} (h : (Lit.int .u32 x).wf = true) : 0 ≤ x ∧ x < 4294967296 := by
 simp [Lit.wf, IntKind.min, IntKind.max, IntKind.bits, IntKind.signed] at h; omega
def Bytes (l : List Int) : Prop := ∀ x ∈ l, 0 ≤ x ∧ x < 256
theorem d3y {l : List Int} (h : ∀ x ∈ l, (Lit.int .u8 x).wf = true) : Bytes l := fun x hx => wf_u8 (h x hx)
theorem Bytes.nil : Bytes [] := fun _ h => by cases h
theorem Bytes.cons {x : Int} {l : List Int} (hx : 0 ≤ x ∧ x < 256) (h : Bytes l) : Bytes (x :: l) := by
 intro y hy
 rcases List.mem_cons.1 hy with rfl | hy
 ·exact hx
 ·exact h y hy
theorem Bytes.append {a b : List Int} (ha : Bytes a) (hb : Bytes b) : Bytes (a ++ b) := fun x hx => (List.mem_append.1 hx).elim (ha x) (hb x)
theorem Bytes.left {a b : List Int} (h : Bytes (a ++ b)) : Bytes a := fun x hx => h x (List.mem_append_left _ hx)
theorem Bytes.right {a b : List Int} (h : Bytes (a ++ b)) : Bytes b := fun x hx => h x (List.mem_append_right _ hx)
theorem Bytes.take {a : List Int} (n : Nat) (h : Bytes a) : Bytes (a.take n) := fun x hx => h x (List.mem_of_mem_take hx)
theorem Bytes.drop {a : List Int} (n : Nat) (h : Bytes a) : Bytes (a.drop n) := fun x hx => h x (List.mem_of_mem_drop hx)
theorem Bytes.reverse {a : List Int} (h : Bytes a) : Bytes a.reverse := fun x hx => h x (List.mem_reverse.1 hx)
theorem Bytes.at {a : List Int} (h : Bytes a) (i : Int) : 0 ≤ rd a i ∧ rd a i < 256 := by
 unfold rd
 rw [List.getD_eq_getElem?_getD]
 rcases Nat.lt_or_ge i.toNat a.length with hi | hi
 ·rw [List.getElem?_eq_getElem hi]; exact h _ (List.getElem_mem hi)
 ·rw [List.getElem?_eq_none hi]; exact ⟨by decide, by decide⟩
theorem Bytes.get {a : List Int} (h : Bytes a) (i : Nat) (hi : i < a.length) : 0 ≤ a[i] ∧ a[i] < 256 := h _ (List.getElem_mem hi)
theorem a2p {a : List Int} (i : Nat) (hi : i < a.length) : rd a (i : Int) = a[i] := by
 unfold rd
 rw [Int.toNat_natCast, List.getD_eq_getElem?_getD, List.getElem?_eq_getElem hi]
 rfl
theorem w64 {x : Int} (h0 : -9223372036854775808 ≤ x) (h1 : x ≤ 9223372036854775807) : wrap64 x = x := by unfold wrap64; omega
theorem wu64 (x : Int) : IntKind.u64.wrap x = x % 18446744073709551616 := by simp [IntKind.wrap, IntKind.bits, IntKind.signed]
theorem b6b {x : Int} (h0 : 0 ≤ x) (h1 : x < 18446744073709551616) : IntKind.u64.wrap x = x := by rw [wu64]; omega
theorem g0p (x : Int) : IntKind.u32.wrap x = x % 4294967296 := by simp [IntKind.wrap, IntKind.bits, IntKind.signed]
theorem d3z {x : Int} (h0 : 0 ≤ x) (h1 : x < 4294967296) : IntKind.u32.wrap x = x := by rw [g0p]; omega
theorem b4n {a b : Nat} (ha : a < 4294967296) (hb : b < 4294967296) : Go.bits .and .u32 (a : Int) (b : Int) = ((a &&& b : Nat) : Int) :=
 (bits_nat .u32 32 (by decide) (fun n h0 h1 => d3z h0 (by simpa using h1)) a b (by simpa using ha) (by simpa using hb)).1
theorem c55 {x y : Int} {i : Nat} (hx0 : 0 ≤ x) (hx : x % 2 ^ i = 0) (hx1 : x < 18446744073709551616) (hy0 : 0 ≤ y) (hy : y < 2 ^ i) (hy1 : y < 18446744073709551616) : Go.bits .or .u64 x y = x + y :=
 bits_join .u64 64 (by decide) (fun n h0 h1 => b6b h0 (by simpa using h1)) i x y hx0 hx (by simpa using hx1) hy0 hy (by simpa using hy1)
theorem c8d {x : Int} (h0 : 0 ≤ x) (h1 : x < 4294967296) : Go.bits .and .u32 x 1 = x % 2 := by
 have := bits_mask .u32 32 (by decide) (fun n h0 h1 => d3z h0 (by simpa using h1)) 1 (by decide) x h0 (by simpa using h1)
 simpa using this
theorem b7L (l : List Int) : (strOfNums l).toList = l.map fun n => UInt8.ofNat n.toNat := by
 rw [ByteArray.toList_eq, strOfNums_data]
theorem d3A {x y : Int} (hx : 0 ≤ x ∧ x < 256) (hy : 0 ≤ y ∧ y < 256) (h : UInt8.ofNat x.toNat = UInt8.ofNat y.toNat) : x = y := by
 have := congrArg UInt8.toNat h
 simp only [UInt8.toNat_ofNat'] at this
 omega
theorem b9O {a b : List Int} (ha : Bytes a) (hb : Bytes b) (h : (strOfNums a).toList = (strOfNums b).toList) : a = b := by
 rw [b7L, b7L] at h
 induction a generalizing b with
 | nil =>
  cases b with
  | nil => rfl
  | cons y b => simp at h
 | cons x a ih =>
  cases b with
  | nil => simp at h
  | cons y b =>
   simp only [List.map_cons, List.cons.injEq] at h
   obtain rfl := d3A (ha x (by simp)) (hb y (by simp)) h.1; rw [ih (fun z hz => ha z (List.mem_cons_of_mem _ hz)) (fun z hz => hb z (List.mem_cons_of_mem _ hz)) h.2]
theorem d1D {a b : List Int} (ha : Bytes a) (hb : Bytes b) : ((strOfNums a).toList = (strOfNums b).toList) ↔ a = b := ⟨b9O ha hb, fun h => by rw [h]⟩
theorem Ev.at {α : Type} {g : Nat → Option α} {r : α} {K : Nat} (h : ∀ k, K ≤ k → g k = some r) : Ev g r := ⟨K, h⟩
theorem Ev.const {α : Type} {g : Option α} {r : α} (h : g = some r) : Ev (fun _ => g) r := ⟨0, fun _ _ => h⟩
def leb (n : Int) : Nat → List Int
 | 0 => []
 | s + 1 => n % 256 :: leb (n / 256) s
theorem a7c (n : Int) (s : Nat) : (leb n s).length = s := by
 induction s generalizing n with
 | zero => rfl
 | succ s ih => simp [leb, ih]
theorem b5G (n : Int) (s : Nat) : Bytes (leb n s) := by
 induction s generalizing n with
 | zero => exact Bytes.nil
 | succ s ih => exact Bytes.cons (by omega) (ih _)
theorem c8e (n : Int) (s i : Nat) (h : i < (leb n s).length) : (leb n s)[i] = n / 256 ^ i % 256 := by
 induction s generalizing n i with
 | zero => simp [leb] at h
 | succ s ih =>
  cases i with
  | zero => simp [leb]
  | succ i =>
   simp only [leb, List.getElem_cons_succ]
   rw [ih, Int.pow_succ, Int.mul_comm, Int.ediv_ediv_of_nonneg (by decide)]
theorem c3M (n : Int) (s : Nat) : leb n (s + 1) = leb n s ++ [n / 256 ^ s % 256] := by
 apply List.ext_getElem
 ·simp [a7c]
 ·intro i h1 h2; rw [c8e]; rw [a7c] at h1
  rcases Nat.lt_or_ge i s with hi | hi
  ·rw [List.getElem_append_left (by rw [a7c]; exact hi), c8e]
  ·obtain rfl : i = s := by omega
   rw [List.getElem_append_right (by rw [a7c]; exact Nat.le_refl _)]
   simp [a7c]
def a0l (l : List Int) : Int := l.foldl (fun a b => a * 256 + b) 0
theorem a5i (l : List Int) (x : Int) : a0l (l ++ [x]) = a0l l * 256 + x := by simp [a0l]
theorem a6j (l : List Int) (h : Bytes l) : 0 ≤ a0l l ∧ a0l l < 256 ^ l.length := by
 suffices ∀ r : List Int, Bytes r.reverse → 0 ≤ a0l r.reverse ∧ a0l r.reverse < 256 ^ r.length by
  have := this l.reverse (by rwa [List.reverse_reverse])
  rwa [List.reverse_reverse, List.length_reverse] at this
 intro r
 induction r with
 | nil => intro _; exact ⟨by decide, by decide⟩
 | cons x r ih =>
  intro hb; rw [List.reverse_cons] at hb ⊢; have h1 := ih hb.left; have h2 := hb.right x (by simp); rw [a5i, List.length_cons, Int.pow_succ]; exact ⟨by omega, by omega⟩
theorem b9P (l : List Int) (h : Bytes l) : leb (a0l l) l.length = l.reverse := by
 suffices ∀ r : List Int, Bytes r.reverse → leb (a0l r.reverse) r.length = r by
  have := this l.reverse (by rwa [List.reverse_reverse])
  rwa [List.reverse_reverse, List.length_reverse] at this
 intro r
 induction r with
 | nil => intro _; rfl
 | cons x r ih =>
  intro hb; rw [List.reverse_cons] at hb ⊢; have h2 := hb.right x (by simp); rw [a5i, List.length_cons, leb]; rw [show (a0l r.reverse * 256 + x) % 256 = x by omega, show (a0l r.reverse * 256 + x) / 256 = a0l r.reverse by omega, ih hb.left]
theorem d1E (n : Int) (s : Nat) (h0 : 0 ≤ n) (h1 : n < 256 ^ s) : a0l (leb n s).reverse = n := by
 induction s generalizing n with
 | zero => simp at h1; simp [leb, a0l]; omega
 | succ s ih =>
  rw [leb, List.reverse_cons, a5i, ih (n / 256) (by omega) (by rw [Int.pow_succ] at h1; omega)]
  omega
def a2k (n : Int) (s : Nat) (big : Bool) : List Int := if big then (leb n s).reverse else leb n s
theorem a2g (n : Int) (s : Nat) (big : Bool) : (a2k n s big).length = s := by
 unfold a2k; split <;> simp [a7c]
theorem c56 (n : Int) (s : Nat) (big : Bool) : Bytes (a2k n s big) := by
 unfold a2k; split
 ·exact (b5G n s).reverse
 ·exact b5G n s
def a9K (l : List Int) (big : Bool) : Int := a0l (if big then l else l.reverse)
theorem d1F (n : Int) (s : Nat) (big : Bool) (h0 : 0 ≤ n) (h1 : n < 256 ^ s) : a9K (a2k n s big) big = n := by
 unfold a9K a2k
 cases big <;> simp [d1E n s h0 h1]
theorem b9Q (l : List Int) (big : Bool) (h : Bytes l) : a2k (a9K l big) l.length big = l := by
 unfold a9K a2k
 cases big
 ·have := b9P l.reverse h.reverse
  simpa using this
 ·have := b9P l h
  simp [this]
theorem c57 (l : List Int) (big : Bool) (h : Bytes l) : 0 ≤ a9K l big ∧ a9K l big < 256 ^ l.length := by
 unfold a9K
 cases big
 ·have := a6j l.reverse h.reverse
  simpa using this
 ·simpa using a6j l h
theorem b2j {i j : Nat} (h : i ≤ j) : (256 : Int) ^ i ≤ 256 ^ j := by
 have h1 : ∀ k : Nat, (256 : Int) ^ k = ((256 ^ k : Nat) : Int) := fun k => (Int.natCast_pow 256 k).symm
 rw [h1, h1]
 exact Int.ofNat_le.2 (Nat.pow_le_pow_right (by decide) h)
theorem b7M (l : List Int) (h : l.length < 140737488355328) : O9.f l = some l := by
 unfold O9.f
 rw [if_pos h]
def c8f (l : List Int) (at_ : Int) : List Int := l.drop at_.toNat
theorem c3N (l : List Int) (at_ : Int) (hl : l.length < 140737488355328) : a4s.f l at_ = some (c8f l at_) := by
 unfold a4s.f c8f
 have h : mn (mx at_ 0) (l.length : Int) = (min at_.toNat l.length : Nat) := by
  unfold mn mx
  split <;> split <;> omega
 rw [h, if_pos (by omega), if_pos (by omega), b7M _ (by rw [List.length_drop]; omega)]
 simp only [Option.bind_some, Int.toNat_natCast]
 congr 1
 rcases Nat.le_total at_.toNat l.length with e | e
 ·rw [Nat.min_eq_left e]
 ·rw [Nat.min_eq_right e, List.drop_of_length_le (Nat.le_refl _), List.drop_of_length_le e]
theorem b7N {n : Int} (h0 : 0 ≤ n) (h1 : n < 2 ^ 63) : IntKind.i64.wrap n = n := by
 rw [IntKind.wrap_i64]
 have : (2 : Int) ^ 63 = 9223372036854775808 := by decide
 omega
theorem d8B {x : Int} (h0 : 0 ≤ x) (h1 : x < 65536) : Go.bits .and .i64 x 1 = x % 2 := by
 have := bits_mask .i64 63 (by decide) (fun n h0 h1 => b7N h0 h1) 1 (by decide) x h0 (Int.lt_trans h1 (by decide))
 simpa using this
theorem c58 {x : Int} (h0 : 0 ≤ x) (h1 : x < 256) : Go.bits .and .u8 x 1 = x % 2 := by
 have := bits_mask .u8 8 (by decide) wraps_u8 1 (by decide) x h0 (by simpa using h1)
 simpa using this
theorem c3O {x : Int} (h0 : 0 ≤ x) (h1 : x < 65536) : (Go.bits .and .i64 x 256 = 0) ↔ x / 256 % 2 = 0 := by
 obtain ⟨n, rfl⟩ := Int.eq_ofNat_of_zero_le h0
 have h := (bits_nat .i64 63 (by decide) (fun n h0 h1 => b7N h0 h1) n 256 (Nat.lt_trans (by omega : n < 65536) (by decide)) (by decide)).1
 have e : ((256 : Nat) : Int) = 256 := rfl
 rw [e] at h
 rw [h]
 have hb : n.testBit 8 = decide (n / 256 % 2 = 1) := Nat.testBit_eq_decide_div_mod_eq
 have ht : (n &&& 256).testBit 8 = n.testBit 8 := by
  rw [Nat.testBit_and, show (256 : Nat) = 2 ^ 8 from rfl, Nat.testBit_two_pow]
  simp
 constructor
 ·intro hz; have hz' : n &&& 256 = 0 := by omega
  rw [hz', Nat.zero_testBit, hb] at ht; have : ¬ (n / 256 % 2 = 1) := of_decide_eq_false ht.symm
  omega
 ·intro hz; have hf : n.testBit 8 = false := by
   rw [hb]; exact decide_eq_false (by omega)
  have : n &&& 256 = 0 := by
   apply Nat.eq_of_testBit_eq
   intro i; rw [Nat.testBit_and, show (256 : Nat) = 2 ^ 8 from rfl, Nat.testBit_two_pow, Nat.zero_testBit]
   by_cases c : 8 = i
   ·subst c
    simp [hf]
   ·simp [c]
  rw [this]
  rfl
theorem d8C {a b : Int} (ha : 0 ≤ a ∧ a < 256) (hb : 0 ≤ b ∧ b < 256) : Go.bits .or .i64 (wrap64 (wrap64 a * 256)) (wrap64 b) = 256 * a + b := by
 rw [w64 (x := a) (by omega) (by omega), w64 (x := b) (by omega) (by omega), w64 (x := a * 256) (by omega) (by omega)]
 rw [bits_join .i64 63 (by decide) (fun n h0 h1 => b7N h0 h1) 8 (a * 256) b (by omega) (by omega) (Int.lt_trans (by omega : a * 256 < 65536) (by decide)) hb.1 (by simpa using hb.2) (Int.lt_trans (by omega : b < 65536) (by decide))]
 omega
def b5H (p : Int) : Bool := decide (1 ≤ p ∧ p ≤ 65535 ∧ p % 2 = 1 ∧ p / 256 % 2 = 0 ∧ p ≠ 255)
theorem b7O (p : Int) : a0x.f p = some (b5H p) := by
 unfold a0x.f b5H
 by_cases a : p ≥ 1
 ·rw [if_pos a]
  by_cases b : p ≤ 65535
  ·rw [if_pos b, d8B (by omega) (by omega)]
   by_cases c : p % 2 = 1
   ·rw [if_pos c]
    by_cases d : p / 256 % 2 = 0
    ·rw [if_pos ((c3O (by omega) (by omega)).2 d)]
     congr 1
     rw [Bool.eq_iff_iff, bne_iff_ne, decide_eq_true_iff]; exact ⟨fun h => ⟨a, b, c, d, h⟩, fun h => h.2.2.2.2⟩
    ·rw [if_neg (fun h => d ((c3O (by omega) (by omega)).1 h))]
     simp [d]
   ·rw [if_neg c]
    simp [c]
  ·rw [if_neg b]
   simp [b]
 ·rw [if_neg a]
  simp [a]
def a5w (rest : List Int) (at_ : Int) : Int × Int × Int :=
 match rest with
 | [] => (0, 0, 2)
 | a :: t => if a % 2 = 1 then (if a = 255 then (0, 0, 3) else (a, at_ + 1, 0)) else
  match t with
  | [] => (0, 0, 2)
  | b :: _ => if b % 2 = 0 ∨ (a = 0 ∧ b = 255) then (0, 0, 3) else (256 * a + b, at_ + 2, 0)
def a3F (l : List Int) : Int × Int × Int :=
 match l with
 | [] => (0, 0, 2)
 | a :: t => if a = 255 then (match t with | [] => (0, 0, 2) | b :: r => if b = 3 then a5w r 2 else (0, 0, 3)) else a5w (a :: t) 0
theorem rd0 (a : Int) (t : List Int) : rd (a :: t) 0 = a := rfl
theorem rd1 (a b : Int) (t : List Int) : rd (a :: b :: t) 1 = b := rfl
theorem d3B {a : Int} (h : 0 ≤ a ∧ a < 256) (o : a % 2 = 1) : b5H a = decide (a ≠ 255) := by
 unfold b5H
 rw [Bool.eq_iff_iff, decide_eq_true_iff, decide_eq_true_iff]
 omega
theorem d8D {a b : Int} (ha : 0 ≤ a ∧ a < 256) (hb : 0 ≤ b ∧ b < 256) (e : a % 2 ≠ 1) : b5H (256 * a + b) = decide (¬ (b % 2 = 0 ∨ (a = 0 ∧ b = 255))) := by
 unfold b5H
 rw [Bool.eq_iff_iff, decide_eq_true_iff, decide_eq_true_iff]
 omega
theorem d8E (at_ : Int) (h0 : 0 ≤ at_) (h1 : at_ ≤ 2) (a : Int) (t : List Int) (hb : Bytes (a :: t)) : Ev (fun k => head_Read.j0 k at_ (a :: t) (decide (a % 2 = 1 ∧ a ≠ 255))) (a5w (a :: t) at_) := by
 have ha := hb a (by simp)
 refine Ev.step (f := fun _ => some (a5w (a :: t) at_)) (fun k => ?_) (Ev.now _)
 rw [head_Read.j0]
 unfold a5w
 by_cases o : a % 2 = 1
 ·by_cases f : a = 255
  ·subst f
   simp [rd0, c58]
  ·rw [if_pos (by simpa using ⟨o, f⟩), if_pos (by simp <;> omega), rd0, w64 (by omega) (by omega), w64 (by omega) (by omega)]
   simp [o, f]
 ·rw [if_neg (by simp [o]), if_pos (by simp <;> omega), rd0, c58 ha.1 ha.2, if_neg o]
  cases t with
  | nil => simp [o]
  | cons b r =>
   have hbb := hb b (by simp); rw [if_neg (by simp <;> omega), if_pos (by simp <;> omega), rd1, d8C ha hbb, b7O, d8D ha hbb o]
   simp only [Option.bind_some]
   by_cases c : b % 2 = 0 ∨ (a = 0 ∧ b = 255)
   ·simp [c, o]
   ·simp only [c, o, not_false_eq_true, decide_true, if_true, if_false]
    rw [w64 (by omega) (by omega)]
theorem c6a (l : List Int) : a3m.f l = some (match l with | [] => (0, 2) | a :: t => if a = 255 then (match t with | [] => (0, 2) | b :: _ => if b = 3 then (2, 0) else (0, 3)) else (0, 0)) := by
 unfold a3m.f
 cases l with
 | nil => rfl
 | cons a t =>
  rw [if_neg (by simp <;> omega), if_pos (by simp <;> omega), rd0]
  by_cases c : a = 255
  ·rw [if_pos c]
   cases t with
   | nil => simp [c]
   | cons b r =>
    rw [if_neg (by simp <;> omega), if_pos (by simp <;> omega), rd1]
    by_cases d : b = 3 <;> simp [c, d]
  ·rw [if_neg c]
   simp [c]
theorem b9R (l rest : List Int) (at_ : Nat) (hr : l.drop at_ = rest) (hat : at_ ≤ 2) (hal : at_ ≤ l.length) (hb : Bytes rest)
  (hf : a3m.f l = some ((at_ : Int), 0)) : Ev (fun k => head_Read.f k l) (a5w rest at_) := by
 unfold head_Read.f
 rw [hf]
 simp only [Option.bind_some, if_true, show (0 : Int) ≤ (at_ : Int) by omega, show (at_ : Int) ≤ (l.length : Int) by omega, Int.toNat_natCast, hr]
 cases rest with
 | nil =>
  simp only [List.length_nil, show ((0 : Nat) : Int) = 0 from rfl, if_true]
  exact Ev.now _
 | cons a t =>
  have ha := hb a (by simp); have hj := d8E (at_ : Int) (by omega) (by omega) a t hb
  simp only [show ¬ (((a :: t).length : Int) = 0) by simp <;> omega, show (0 : Int) < ((a :: t).length : Int) by simp <;> omega, if_true, if_false, rd0, c58 ha.1 ha.2]
  by_cases o : a % 2 = 1
  ·simp only [o, if_true, w64 (x := a) (by omega) (by omega), b7O, Option.bind_some, d3B ha o]
   simp only [o, true_and] at hj
   exact hj
  ·simp only [o, if_false]
   simp only [o, false_and, decide_false] at hj
   exact hj
theorem c3P (l : List Int) (hb : Bytes l) : Ev (fun k => head_Read.f k l) (a3F l) := by
 have hf := c6a l
 have no : ∀ e : Int, e ≠ 0 → a3m.f l = some (0, e) → Ev (fun k => head_Read.f k l) (0, 0, e) := by
  intro e he h; unfold head_Read.f; rw [h]
  simp only [Option.bind_some, he, if_false]
  exact Ev.now _
 cases l with
 | nil => exact no 2 (by decide) hf
 | cons a t =>
  unfold a3F
  by_cases c : a = 255
  ·simp only [c, if_true] at hf ⊢
   cases t with
   | nil => subst c; exact no 2 (by decide) hf
   | cons b r =>
    by_cases d : b = 3
    ·simp only [d, if_true] at hf ⊢
     subst c d; exact b9R _ r 2 rfl (by decide) (by simp) (fun x hx => hb x (by simp [hx])) hf
    ·simp only [d, if_false] at hf ⊢
     subst c; exact no 3 (by decide) hf
  ·simp only [c, if_false] at hf ⊢
   exact b9R _ (a :: t) 0 rfl (by decide) (by simp) hb hf
def b0V (l : List Int) : Int × List Int × Int := if (a3F l).2.2 = 0 then ((a3F l).1, l.drop (a3F l).2.1.toNat, 0) else (0, [], (a3F l).2.2)
theorem d1G (l : List Int) (hb : Bytes l) (hl : l.length < 140737488355328) : Ev (fun k => a1y.f k l) (b0V l) := by
 unfold a1y.f b0V
 refine Ev.bind (c3P l hb) ?_
 by_cases c : (a3F l).2.2 = 0
 ·simp only [c, if_true, c3N l _ hl, Option.bind_some]
  exact Ev.now _
 ·simp only [c, if_false]
  exact Ev.now _
theorem b7P (r : List Int) (at_ : Int) (h : (a5w r at_).2.2 = 0) : (a5w r at_).2.1 ≤ at_ + r.length ∧ at_ + 1 ≤ (a5w r at_).2.1 := by
 unfold a5w at h ⊢
 cases r with
 | nil => simp at h
 | cons a t =>
  by_cases o : a % 2 = 1
  ·by_cases f : a = 255
   ·simp [f] at h
   ·simp [o, f]
    omega
  ·simp only [o, if_false] at h ⊢
   cases t with
   | nil => simp at h
   | cons b s =>
    by_cases c : b % 2 = 0 ∨ (a = 0 ∧ b = 255)
    ·simp [c] at h
    ·simp [c]
     omega
theorem d3C (l : List Int) (h : (a3F l).2.2 = 0) : (a3F l).2.1 ≤ l.length ∧ 1 ≤ (a3F l).2.1 := by
 unfold a3F at h ⊢
 cases l with
 | nil => simp at h
 | cons a t =>
  by_cases c : a = 255
  ·simp only [c, if_true] at h ⊢
   cases t with
   | nil => simp at h
   | cons b r =>
    by_cases d : b = 3
    ·simp only [d, if_true] at h ⊢
     have := b7P r 2 h
     simp only [List.length_cons]
     omega
    ·simp [d] at h
  ·simp only [c, if_false] at h ⊢
   have := b7P (a :: t) 0 h
   omega
def a5R (m c : Int) : Bool := decide (c < 32) && m.toNat.testBit c.toNat
theorem toNat_div (m : Int) (h : 0 ≤ m) (j : Nat) : (m / 2 ^ j) = ((m.toNat / 2 ^ j : Nat) : Int) := by
 obtain ⟨n, rfl⟩ := Int.eq_ofNat_of_zero_le h
 simp
theorem d3D (m : Int) (h : 0 ≤ m) (j : Nat) : ((m / 2 ^ j) % 2 == 1) = m.toNat.testBit j := by
 rw [Nat.testBit_eq_decide_div_mod_eq, toNat_div m h]
 rw [Bool.eq_iff_iff, beq_iff_eq, decide_eq_true_iff]
 omega
theorem b4p (m c : Int) (h0 : 0 ≤ m) (h1 : m < 4294967296) (hc : 0 ≤ c) : a4z.f m c = some (a5R m c) := by
 unfold a4z.f a5R
 by_cases a : c < 32
 ·rw [if_pos a, if_pos hc]; have hs : shr .u32 m c = m / 2 ^ c.toNat := by
   unfold shr; rw [Nat.min_eq_left (by simp [IntKind.bits]; omega)]
  have hq0 : 0 ≤ m / 2 ^ c.toNat := Int.ediv_nonneg h0 (Int.le_of_lt (Int.pow_pos (by decide))); have hq1 : m / 2 ^ c.toNat ≤ m := Int.ediv_le_self _ h0; rw [hs, c8d hq0 (by omega), d3D m h0]
  simp [a]
 ·rw [if_neg a]
  simp [a]
def b4q (c : Int) : Int := Go.bits .xor .u8 c 32
theorem d1H (n : Nat) (h : n < 256) : b4q (n : Int) = ((n ^^^ 32 : Nat) : Int) := by
 have h1 : n ^^^ 32 < 2 ^ 8 := Nat.xor_lt_two_pow (by simpa using h) (by decide)
 have e2 : (BitVec.ofNat 8 n ^^^ 32#8).toNat = n ^^^ 32 := by
  rw [BitVec.toNat_xor, BitVec.toNat_ofNat, Nat.mod_eq_of_lt (show n < 2 ^ 8 by simpa using h)]
  rfl
 have e3 := wraps_u8 (((n ^^^ 32 : Nat) : Int)) (by omega) (by exact_mod_cast h1)
 rw [← e2] at e3
 rw [← e2]
 exact e3
theorem c3Q {c : Int} (h : 0 ≤ c ∧ c < 256) : 0 ≤ b4q c ∧ b4q c < 256 := by
 obtain ⟨n, rfl⟩ := Int.eq_ofNat_of_zero_le h.1
 have h1 : n ^^^ 32 < 2 ^ 8 := Nat.xor_lt_two_pow (by omega) (by decide)
 rw [d1H n (by omega)]
 omega
def b06 (m : Int) : List Int → Bool → List Int → List Int × Bool
 | [], b, acc => if b then ([], false) else (acc, true)
 | c :: t, b, acc => if c = 126 then ([], false) else if a5R m c = true then b06 m t b acc else if b then b06 m t false (acc ++ [b4q c]) else if c = 125 then b06 m t true acc else b06 m t b (acc ++ [c])
def X9 (l : List Int) (m : Int) : List Int × Bool := b06 m l false []
theorem d1I (m : Int) (h0 : 0 ≤ m) (h1 : m < 4294967296) (l : List Int) (hb : Bytes l) (hl : l.length < 70368744177664) (d : Nat) : ∀ (i : Nat) (b : Bool) (acc : List Int), l.length - i = d → i ≤ l.length → acc.length ≤ i →
  Ev (fun k => V5.l0 k m acc b l (l.length : Int) (i : Int)) (b06 m (l.drop i) b acc) := by
 induction d with
 | zero =>
  intro i b acc hd hi ha; refine Ev.step (f := fun _ => some (b06 m (l.drop i) b acc)) (fun k => ?_) (Ev.now _); rw [V5.l0, if_neg (by omega), List.drop_of_length_le (by omega)]; unfold b06
  cases b <;> simp
 | succ d ih =>
  intro i b acc hd hi ha; have hil : i < l.length := by omega
  have hc := hb _ (List.getElem_mem hil); rw [List.drop_eq_getElem_cons hil]; unfold b06
  by_cases e1 : l[i] = 126
  ·refine Ev.step (f := fun _ => some (([] : List Int), false)) (fun k => ?_) ?_
   ·rw [V5.l0, if_pos (by omega), if_pos (by omega), if_pos (by omega), a2p i hil, if_pos e1]
   ·rw [if_pos e1]; exact Ev.now _
  ·rw [if_neg e1]
   by_cases e2 : a5R m l[i] = true
   ·rw [if_pos e2]; refine Ev.step (fun k => ?_) (ih (i + 1) b acc (by omega) (by omega) (by omega)); rw [V5.l0, if_pos (by omega), if_pos (by omega), if_pos (by omega), a2p i hil, if_neg e1, b4p m _ h0 h1 hc.1]
    simp only [Option.bind_some, e2, if_true]
    rw [w64 (by omega) (by omega)]
    rfl
   ·rw [if_neg e2]
    by_cases e3 : b = true
    ·rw [if_pos e3]; refine Ev.step (fun k => ?_) (ih (i + 1) false (acc ++ [b4q l[i]]) (by omega) (by omega) (by simp; omega)); rw [V5.l0, if_pos (by omega), if_pos (by omega), if_pos (by omega), a2p i hil, if_neg e1, b4p m _ h0 h1 hc.1]
     simp only [Option.bind_some, e2, e3, Bool.false_eq_true, if_true, if_false]
     rw [if_pos (by omega), w64 (by omega) (by omega)]
     rfl
    ·rw [if_neg e3]
     by_cases e4 : l[i] = 125
     ·rw [if_pos e4]; refine Ev.step (fun k => ?_) (ih (i + 1) true acc (by omega) (by omega) (by omega)); rw [V5.l0, if_pos (by omega), if_pos (by omega), if_pos (by omega), a2p i hil, if_neg e1, b4p m _ h0 h1 hc.1]
      simp only [Option.bind_some, e2, e3, e4, Bool.false_eq_true, if_true, if_false]
      rw [w64 (by omega) (by omega)]
      rfl
     ·rw [if_neg e4]; refine Ev.step (fun k => ?_) (ih (i + 1) b (acc ++ [l[i]]) (by omega) (by omega) (by simp; omega)); rw [V5.l0, if_pos (by omega), if_pos (by omega), if_pos (by omega), a2p i hil, if_neg e1, b4p m _ h0 h1 hc.1]
      simp only [Option.bind_some, e2, e3, e4, Bool.false_eq_true, if_true, if_false]
      rw [if_pos (by omega), w64 (by omega) (by omega)]
      rfl
theorem c0S (l : List Int) (m : Int) (hb : Bytes l) (h0 : 0 ≤ m) (h1 : m < 4294967296) (hl : l.length < 70368744177664) : Ev (fun k => V5.f k l m) (X9 l m) := by
 have := d1I m h0 h1 l hb hl l.length 0 false [] (by omega) (by omega) (by simp)
 exact this
theorem d1J (m : Int) (h0 : 0 ≤ m) (h1 : m < 4294967296) (c : Nat) (hc : c < 32) (d : Nat) : ∀ i : Nat, c - i = d → i ≤ c →
  Ev (fun k => W9.l0 k (m / 2 ^ i) (c : Int) (i : Int)) (m.toNat.testBit c) := by
 induction d with
 | zero =>
  intro i hd hi; obtain rfl : i = c := by omega
  have hq0 : 0 ≤ m / 2 ^ i := Int.ediv_nonneg h0 (Int.le_of_lt (Int.pow_pos (by decide))); refine Ev.step (f := fun _ => some (m.toNat.testBit i)) (fun k => ?_) (Ev.now _); rw [W9.l0, if_neg (by omega), Int.tmod_eq_emod_of_nonneg hq0, d3D m h0]
 | succ d ih =>
  intro i hd hi; have hq0 : 0 ≤ m / 2 ^ i := Int.ediv_nonneg h0 (Int.le_of_lt (Int.pow_pos (by decide))); have hq1 : m / 2 ^ i ≤ m := Int.ediv_le_self _ h0; refine Ev.step (f := fun k => W9.l0 k (m / 2 ^ (i + 1)) (c : Int) ((i + 1 : Nat) : Int)) (fun k => ?_) (ih (i + 1) (by omega) (by omega)); rw [W9.l0, if_pos (by omega), Int.tdiv_eq_ediv_of_nonneg hq0, Int.emod_eq_of_lt (by omega) (by omega), Int.ediv_ediv_of_nonneg (Int.le_of_lt (Int.pow_pos (by decide))), ← Int.pow_succ, show ((i : Int) + 1) % 256 = ((i + 1 : Nat) : Int) by omega]
theorem d1K (m c : Int) (h0 : 0 ≤ m) (h1 : m < 4294967296) (hc : 0 ≤ c) : Ev (fun k => W9.f k m c) (a5R m c) := by
 unfold W9.f a5R
 by_cases a : c > 31
 ·simp only [a, if_true]
  rw [show decide (c < 32) = false by simp; omega]; exact Ev.now _
 ·simp only [a, if_false]
  rw [show decide (c < 32) = true by simp; omega]; have := d1J m h0 h1 c.toNat (by omega) c.toNat 0 (by omega) (by omega); rw [show ((c.toNat : Nat) : Int) = c by omega] at this
  simpa using this
theorem d1L (m : Int) (h0 : 0 ≤ m) (h1 : m < 4294967296) (l : List Int) (hb : Bytes l) (hl : l.length < 70368744177664) (d : Nat) : ∀ (i : Nat), l.length - i = d → i ≤ l.length →
  Ev (fun k => J8.l0 k l m ((l.take i).filter fun c => !a5R m c) (i : Int)) (l.filter fun c => !a5R m c) := by
 induction d with
 | zero =>
  intro i hd hi; refine Ev.step (f := fun _ => some (l.filter fun c => !a5R m c)) (fun k => ?_) (Ev.now _); rw [J8.l0, if_neg (by omega), List.take_of_length_le (by omega)]
 | succ d ih =>
  intro i hd hi; have hil : i < l.length := by omega
  have hc := hb _ (List.getElem_mem hil); have hlen := List.length_filter_le (fun c => !a5R m c) (l.take i); rw [List.length_take] at hlen; refine Ev.step (fun k => by rw [J8.l0, if_pos (by omega), if_pos (by omega), a2p i hil]) (Ev.bind (d1K m l[i] h0 h1 hc.1) ?_); have next := ih (i + 1) (by omega) (by omega); rw [List.take_succ_eq_append_getElem hil, List.filter_append] at next; have hw : ∀ x : Int, x = (i : Int) → wrap64 (x + 1) = ((i + 1 : Nat) : Int) := by
   intro x hx; rw [w64 (by omega) (by omega)]
   omega
  by_cases e : a5R m l[i] = true
  ·simp only [e, if_true, List.filter_cons, Bool.not_true, Bool.false_eq_true, if_false, List.filter_nil, List.append_nil, hw _ rfl] at next ⊢
   exact next
  ·have e' : a5R m l[i] = false := by simpa using e
   simp only [e', Bool.false_eq_true, if_false, List.filter_cons, Bool.not_false, if_true, List.filter_nil, hw _ rfl, show ((l.take i).filter fun c => !a5R m c).length < 140737488355328 by omega] at next ⊢
   exact next
theorem b9S (l : List Int) (m : Int) (hb : Bytes l) (h0 : 0 ≤ m) (h1 : m < 4294967296) (hl : l.length < 70368744177664) : Ev (fun k => J8.f k l m) (l.filter fun c => !a5R m c) := by
 have := d1L m h0 h1 l hb hl l.length 0 (by omega) (by omega)
 exact this
def a6k : List Int → List Int → List Int × Bool
 | [], acc => (acc, true)
 | c :: t, acc => if c = 126 then ([], false) else if c = 125 then (match t with | [] => ([], false) | d :: t' => if d = 126 then ([], false) else a6k t' (acc ++ [b4q d])) else a6k t (acc ++ [c])
theorem a5j (c : Int) (t acc : List Int) : a6k (c :: t) acc = if c = 126 then ([], false) else if c = 125 then (match t with | [] => ([], false) | d :: t' => if d = 126 then ([], false) else a6k t' (acc ++ [b4q d])) else a6k t (acc ++ [c]) := by
 conv => lhs; rw [a6k.eq_def]
theorem c6b (l : List Int) (hl : l.length < 70368744177664) (n : Nat) : ∀ (i : Nat) (acc : List Int), l.length - i ≤ n → i ≤ l.length → acc.length ≤ i →
  Ev (fun k => y9.l0 k l acc (i : Int)) (a6k (l.drop i) acc) := by
 induction n with
 | zero =>
  intro i acc hd hi ha; refine Ev.step (f := fun _ => some (a6k (l.drop i) acc)) (fun k => ?_) (Ev.now _); rw [y9.l0, if_neg (by omega), List.drop_of_length_le (by omega)]; rw [a6k]
 | succ n ih =>
  intro i acc hd hi ha
  rcases Nat.lt_or_ge i l.length with hil | hil
  ·have hd1 : l.drop i = l[i] :: l.drop (i + 1) := List.drop_eq_getElem_cons hil; have no : ∀ b : Bool, b = true → Ev (fun k => y9.j1 k l acc (i : Int) b) (([] : List Int), false) := by
    intro b hb; refine Ev.step (f := fun _ => some (([] : List Int), false)) (fun k => ?_) (Ev.now _); rw [y9.j1, if_pos hb]
   rw [hd1]
   by_cases e1 : l[i] = 126
   ·rw [a5j, if_pos e1]; refine Ev.step (fun k => ?_) (no true rfl); rw [y9.l0, if_pos (by omega), if_pos (by omega), a2p i hil, if_pos e1]
   ·by_cases e2 : l[i] = 125
    ·rcases Nat.lt_or_ge (i + 1) l.length with hi2 | hi2
     ·have hd2 : l.drop (i + 1) = l[i + 1] :: l.drop (i + 2) := List.drop_eq_getElem_cons hi2; rw [a5j, if_neg e1, if_pos e2, hd2]
      dsimp only
      by_cases e3 : l[i + 1] = 126
      ·rw [if_pos e3]; refine Ev.step (fun k => ?_) (no (l[i + 1] == 126) (by simpa using e3)); rw [y9.l0, if_pos (by omega), if_pos (by omega), a2p i hil, if_neg e1, if_pos e2, w64 (by omega) (by omega), if_neg (by omega), if_pos (by omega), if_pos (by omega), show ((i : Int) + 1) = ((i + 1 : Nat) : Int) by omega, a2p (i + 1) hi2]
      ·rw [if_neg e3]; refine Ev.step (f := fun k => y9.j1 k l acc (i : Int) (l[i + 1] == 126)) (fun k => ?_) (Ev.step (fun k => ?_) (ih (i + 2) (acc ++ [b4q l[i + 1]]) (by omega) (by omega) (by simp; omega)))
       ·rw [y9.l0, if_pos (by omega), if_pos (by omega), a2p i hil, if_neg e1, if_pos e2, w64 (by omega) (by omega), if_neg (by omega), if_pos (by omega), if_pos (by omega), show ((i : Int) + 1) = ((i + 1 : Nat) : Int) by omega, a2p (i + 1) hi2]
       ·rw [y9.j1, if_neg (by simpa using e3), if_pos (by omega), if_pos (by omega), a2p i hil, if_pos e2, w64 (x := (i : Int) + 1) (by omega) (by omega), if_pos (by omega), if_pos (by omega), if_pos (by omega), show ((i : Int) + 1) = ((i + 1 : Nat) : Int) by omega, a2p (i + 1) hi2, w64 (by omega) (by omega)]
        rfl
     ·rw [List.drop_of_length_le (by omega : l.length ≤ i + 1), a5j, if_neg e1, if_pos e2]; refine Ev.step (fun k => ?_) (no true rfl); rw [y9.l0, if_pos (by omega), if_pos (by omega), a2p i hil, if_neg e1, if_pos e2, w64 (by omega) (by omega), if_pos (by omega)]
    ·rw [a5j, if_neg e1, if_neg e2]; refine Ev.step (f := fun k => y9.j1 k l acc (i : Int) false) (fun k => ?_) (Ev.step (fun k => ?_) (ih (i + 1) (acc ++ [l[i]]) (by omega) (by omega) (by simp; omega)))
     ·rw [y9.l0, if_pos (by omega), if_pos (by omega), a2p i hil, if_neg e1, if_neg e2]
     ·rw [y9.j1, if_neg (by decide), if_pos (by omega), if_pos (by omega), a2p i hil, if_neg e2, if_pos (by omega), w64 (by omega) (by omega)]
      rfl
  ·refine Ev.step (f := fun _ => some (a6k (l.drop i) acc)) (fun k => ?_) (Ev.now _); rw [y9.l0, if_neg (by omega), List.drop_of_length_le (by omega)]; rw [a6k]
theorem b9T (m c : Int) (h : 32 ≤ c) : a5R m c = false := by
 unfold a5R
 rw [show decide (c < 32) = false by apply decide_eq_false; omega]
 rfl
theorem b3C (m : Int) (l : List Int) : (∀ acc, b06 m l false acc = a6k (l.filter fun c => !a5R m c) acc) ∧
  (∀ acc, b06 m l true acc = match (l.filter fun c => !a5R m c) with | [] => ([], false) | d :: t => if d = 126 then ([], false) else a6k t (acc ++ [b4q d])) := by
 induction l with
 | nil => exact ⟨fun acc => by simp [b06, a6k], fun acc => by simp [b06]⟩
 | cons c t ih =>
  constructor
  ·intro acc; unfold b06
   by_cases e1 : c = 126
   ·have := b9T m c (by omega); rw [if_pos e1, List.filter_cons, this]
    simp only [Bool.not_false, if_true]
    rw [a5j, if_pos e1]
   ·rw [if_neg e1]
    by_cases e2 : a5R m c = true
    ·rw [if_pos e2, List.filter_cons, e2]
     simp only [Bool.not_true, Bool.false_eq_true, if_false]
     exact ih.1 acc
    ·have e2' : a5R m c = false := by simpa using e2
     rw [if_neg e2, List.filter_cons, e2']
     simp only [Bool.not_false, if_true, Bool.false_eq_true, if_false]
     by_cases e3 : c = 125
     ·rw [if_pos e3, a5j, if_neg e1, if_pos e3, ih.2 acc]
     ·rw [if_neg e3, a5j, if_neg e1, if_neg e3, ih.1]
  ·intro acc; unfold b06
   by_cases e1 : c = 126
   ·have := b9T m c (by omega); rw [if_pos e1, List.filter_cons, this]
    simp only [Bool.not_false, if_true, e1]
   ·rw [if_neg e1]
    by_cases e2 : a5R m c = true
    ·rw [if_pos e2, List.filter_cons, e2]
     simp only [Bool.not_true, Bool.false_eq_true, if_false]
     exact ih.2 acc
    ·have e2' : a5R m c = false := by simpa using e2
     rw [if_neg e2, List.filter_cons, e2']
     simp only [Bool.not_false, if_true, e1, if_false]
     exact ih.1 _
theorem b9o (l : List Int) (m : Int) (hb : Bytes l) (h0 : 0 ≤ m) (h1 : m < 4294967296) (hl : l.length < 70368744177664) : Ev (fun k => y9.f k l m) (X9 l m) := by
 unfold y9.f
 refine Ev.bind (b9S l m hb h0 h1 hl) ?_
 have hlen := List.length_filter_le (fun c => !a5R m c) l
 have := c6b (l.filter fun c => !a5R m c) (by omega) _ 0 [] (Nat.le_refl _) (by omega) (by simp)
 rw [List.drop_zero] at this
 unfold X9
 rw [(b3C m l).1 []]
 exact this
def S (p n : Nat) : Nat := if n % 2 = 1 then (n / 2) ^^^ p else n / 2
def Sn (p : Nat) : Nat → Nat → Nat
 | 0, n => n
 | k + 1, n => S p (Sn p k n)
theorem d3E (a b : Nat) : (a ^^^ b) / 2 = (a / 2) ^^^ (b / 2) := by
 apply Nat.eq_of_testBit_eq
 intro i
 simp [Nat.testBit_xor, ← Nat.testBit_succ]
theorem d8F (a b : Nat) : ((a ^^^ b) % 2 = 1) ↔ ¬ ((a % 2 = 1) ↔ (b % 2 = 1)) := by
 have h : ∀ n : Nat, (n % 2 = 1) ↔ n.testBit 0 = true := fun n => by simp [Nat.testBit_zero]
 rw [h, h, h, Nat.testBit_xor]
 cases a.testBit 0 <;> cases b.testBit 0 <;> simp
theorem e9I (p a b : Nat) : S p (a ^^^ b) = S p a ^^^ S p b := by
 unfold S
 have h := d8F a b
 rw [d3E]
 by_cases ha : a % 2 = 1 <;> by_cases hb : b % 2 = 1
 ·rw [if_neg (by rw [h]; simp [ha, hb]), if_pos ha, if_pos hb]; rw [Nat.xor_assoc, ← Nat.xor_assoc p, Nat.xor_comm p, Nat.xor_assoc (b / 2), Nat.xor_self, Nat.xor_zero]
 ·rw [if_pos (by rw [h]; simp [ha, hb]), if_pos ha, if_neg hb, Nat.xor_assoc, Nat.xor_assoc, Nat.xor_comm p]
 ·rw [if_pos (by rw [h]; simp [ha, hb]), if_neg ha, if_pos hb, Nat.xor_assoc]
 ·rw [if_neg (by rw [h]; simp [ha, hb]), if_neg ha, if_neg hb]
theorem c6c (p k a b : Nat) : Sn p k (a ^^^ b) = Sn p k a ^^^ Sn p k b := by
 induction k with
 | zero => rfl
 | succ k ih => rw [Sn, ih, e9I]; rfl
theorem d3F (p a b n : Nat) : Sn p (a + b) n = Sn p b (Sn p a n) := by
 induction b with
 | zero => rfl
 | succ b ih => rw [← Nat.add_assoc, Sn, ih]; rfl
theorem Sn_succ (p k n : Nat) : Sn p (k + 1) n = Sn p k (S p n) := by
 rw [Nat.add_comm, d3F]
 rfl
theorem e9J (p n : Nat) : S p (n * 2) = n := by
 unfold S
 rw [if_neg (by omega)]
 omega
theorem c3R (p k n : Nat) : Sn p k (n * 2 ^ k) = n := by
 induction k generalizing n with
 | zero => simp [Sn]
 | succ k ih => rw [Sn, Nat.pow_succ, show n * (2 ^ k * 2) = n * 2 * 2 ^ k by rw [Nat.mul_comm (2 ^ k), Nat.mul_assoc], ih, e9J]
theorem b5I (n k : Nat) : (n % 2 ^ k) ^^^ (n / 2 ^ k * 2 ^ k) = n := by
 apply Nat.eq_of_testBit_eq
 intro i
 rw [Nat.testBit_xor, Nat.testBit_mod_two_pow, Nat.testBit_mul_two_pow]
 by_cases h : i < k
 ·simp [h, Nat.not_le.2 h]
 ·have h' : k ≤ i := by omega
  simp [h, h', Nat.testBit_div_two_pow, Nat.sub_add_cancel h', Nat.add_sub_cancel' h']
theorem c8g {a k : Nat} (b : Nat) (h : a < 2 ^ k) : a + b * 2 ^ k = a ^^^ (b * 2 ^ k) := by
 have := b5I (a + b * 2 ^ k) k
 rw [Nat.add_mul_mod_self_right, Nat.mod_eq_of_lt h, Nat.add_mul_div_right _ _ (Nat.two_pow_pos k), Nat.div_eq_of_lt h, Nat.zero_add] at this
 exact this.symm
def leN : List Int → Nat
 | [] => 0
 | c :: l => c.toNat ^^^ (leN l * 256)
def c6d (p r : Nat) (c : Int) : Nat := (r / 256) ^^^ Sn p 8 ((r % 256) ^^^ c.toNat)
theorem b6L (p r : Nat) (c : Int) : c6d p r c = Sn p 8 (r ^^^ c.toNat) := by
 have h := b5I r 8
 conv => rhs; rw [← h]
 rw [show (r % 2 ^ 8 ^^^ r / 2 ^ 8 * 2 ^ 8 ^^^ c.toNat) = ((r % 2 ^ 8 ^^^ c.toNat) ^^^ r / 2 ^ 8 * 2 ^ 8) by rw [Nat.xor_assoc, Nat.xor_comm (r / 2 ^ 8 * 2 ^ 8), Nat.xor_assoc], c6c, c3R, Nat.xor_comm]
 rfl
def a4A (p r : Nat) (l : List Int) : Nat := l.foldl (c6d p) r
theorem b7Q (p r : Nat) (c : Int) (l : List Int) : a4A p r (c :: l) = a4A p (c6d p r c) l := rfl
theorem c0T (p r : Nat) (a b : List Int) : a4A p r (a ++ b) = a4A p (a4A p r a) b := by simp [a4A]
theorem d3G (p r : Nat) (l : List Int) : a4A p r l = Sn p (8 * l.length) (r ^^^ leN l) := by
 induction l generalizing r with
 | nil => simp [a4A, leN, Sn]
 | cons c l ih =>
  rw [b7Q, ih, b6L, List.length_cons, show 8 * (l.length + 1) = 8 + 8 * l.length by omega, d3F, leN, ← Nat.xor_assoc, c6c p 8 (r ^^^ c.toNat), show (256 : Nat) = 2 ^ 8 from rfl, c3R]
theorem b6c {a b : Nat} (h : a ^^^ b = 0) : a = b := by
 have h1 : (a ^^^ b) ^^^ b = b := by rw [h, Nat.zero_xor]
 rwa [Nat.xor_assoc, Nat.xor_self, Nat.xor_zero] at h1
theorem b9m {p b n : Nat} (hp : p < 2 ^ b) (hn : n < 2 ^ b) : S p n < 2 ^ b := by
 unfold S
 split
 ·exact Nat.xor_lt_two_pow (by omega) hp
 ·omega
theorem c8h {p b n : Nat} (k : Nat) (hp : p < 2 ^ b) (hn : n < 2 ^ b) : Sn p k n < 2 ^ b := by
 induction k with
 | zero => exact hn
 | succ k ih => exact b9m hp ih
theorem c0U {p b r : Nat} {c : Int} (hb : 8 ≤ b) (hp : p < 2 ^ b) (hr : r < 2 ^ b) (hc : 0 ≤ c ∧ c < 256) : c6d p r c < 2 ^ b := by
 rw [b6L]
 have : 2 ^ 8 ≤ 2 ^ b := Nat.pow_le_pow_right (by decide) hb
 exact c8h 8 hp (Nat.xor_lt_two_pow hr (by omega))
theorem d3H {p b r : Nat} {l : List Int} (hb : 8 ≤ b) (hp : p < 2 ^ b) (hr : r < 2 ^ b) (hl : Bytes l) : a4A p r l < 2 ^ b := by
 induction l generalizing r with
 | nil => exact hr
 | cons c l ih => exact ih (c0U hb hp hr (hl c (by simp))) (fun x hx => hl x (by simp [hx]))
theorem e5k {p b n : Nat} (hp : 2 ^ (b - 1) ≤ p) (hb : 1 ≤ b) (hn : n < 2 ^ b) (h : S p n = 0) : n = 0 := by
 obtain ⟨c, rfl⟩ : ∃ c, b = c + 1 := ⟨b - 1, by omega⟩
 rw [Nat.add_sub_cancel] at hp
 rw [Nat.pow_succ] at hn
 unfold S at h
 split at h
 ·have := b6c h
  omega
 ·omega
theorem d8G {p b n : Nat} (k : Nat) (hp : 2 ^ (b - 1) ≤ p) (hp1 : p < 2 ^ b) (hb : 1 ≤ b) (hn : n < 2 ^ b) (h : Sn p k n = 0) : n = 0 := by
 induction k with
 | zero => exact h
 | succ k ih => exact ih (e5k hp hb (c8h k hp1 hn) h)
theorem e5l {p b m n : Nat} (k : Nat) (hp : 2 ^ (b - 1) ≤ p) (hp1 : p < 2 ^ b) (hb : 1 ≤ b) (hm : m < 2 ^ b) (hn : n < 2 ^ b) (h : Sn p k m = Sn p k n) : m = n := by
 have h1 : Sn p k (m ^^^ n) = 0 := by rw [c6c, h, Nat.xor_self]
 exact b6c (d8G k hp hp1 hb (Nat.xor_lt_two_pow hm hn) h1)
theorem e5m {l : List Int} (h : Bytes l) : leN l < 2 ^ (8 * l.length) := by
 induction l with
 | nil => simp [leN]
 | cons c l ih =>
  have hc := h c (by simp); have hl := ih (fun x hx => h x (by simp [hx])); rw [leN, List.length_cons, show (256 : Nat) = 2 ^ 8 from rfl, ← c8g _ (by omega), show 8 * (l.length + 1) = 8 * l.length + 8 by omega, Nat.pow_add]
  omega
theorem d8H (n s : Nat) (h : n < 256 ^ s) : leN (leb (n : Int) s) = n := by
 induction s generalizing n with
 | zero => simp at h; subst h; rfl
 | succ s ih =>
  rw [Nat.pow_succ] at h; rw [leb, leN, show ((n : Int) / 256) = ((n / 256 : Nat) : Int) by omega, ih (n / 256) (by omega), show ((n : Int) % 256).toNat = n % 2 ^ 8 by omega]; exact b5I n 8
theorem d8I {l : List Int} (h : Bytes l) : leb (leN l : Int) l.length = l := by
 induction l with
 | nil => rfl
 | cons c l ih =>
  have hc := h c (by simp); have hl := ih (fun x hx => h x (by simp [hx])); have e : leN (c :: l) = c.toNat + leN l * 256 := by
   rw [leN, show (256 : Nat) = 2 ^ 8 from rfl, ← c8g _ (by omega)]
  rw [e, List.length_cons, leb, show (((c.toNat + leN l * 256 : Nat) : Int) % 256) = c by omega, show (((c.toNat + leN l * 256 : Nat) : Int) / 256) = (leN l : Int) by omega, hl]
theorem d3I {b m : Nat} (h : m < 2 ^ b) : (2 ^ b - 1) - m = m ^^^ (2 ^ b - 1) := by
 rw [show 2 ^ b - 1 - m = 2 ^ b - (m + 1) by omega]
 apply Nat.eq_of_testBit_eq
 intro i
 rw [Nat.testBit_two_pow_sub_succ h, Nat.testBit_xor, Nat.testBit_two_pow_sub_one]
 by_cases hi : i < b
 ·simp [hi]
 ·rw [Nat.testBit_lt_two_pow (Nat.lt_of_lt_of_le h (Nat.pow_le_pow_right (by decide) (by omega)))]
  simp [hi]
def byN (wide : Bool) : Nat := if wide = true then 3988292384 else 33800
def wid (wide : Bool) : Nat := if wide = true then 32 else 16
def a7z (wide : Bool) : Nat := 2 ^ wid wide - 1
def d3J (wide : Bool) : Nat := if wide = true then 3736805603 else 61624
def a2h (wide : Bool) : Nat := if wide = true then 4 else 2
theorem d3K (wide : Bool) : byN wide < 2 ^ wid wide := by cases wide <;> decide
theorem e5n (wide : Bool) : 2 ^ (wid wide - 1) ≤ byN wide := by cases wide <;> decide
theorem d3L (wide : Bool) : 8 ≤ wid wide := by cases wide <;> decide
theorem e5o (wide : Bool) : wid wide ≤ 32 := by cases wide <;> decide
theorem c3S (wide : Bool) : wid wide = 8 * a2h wide := by cases wide <;> rfl
theorem b2k (wide : Bool) : a7z wide < 2 ^ wid wide := by cases wide <;> decide
theorem d8J (wide : Bool) : Sn (byN wide) (wid wide) (a7z wide) = d3J wide := by cases wide <;> decide +kernel
def ofN (l : List Int) (wide : Bool) : Nat := a4A (byN wide) (a7z wide) l ^^^ a7z wide
theorem c0V (l : List Int) (wide : Bool) (r : Nat) (hr : r < 2 ^ wid wide) (h : Bytes l) : a4A (byN wide) r l < 2 ^ wid wide := d3H (d3L wide) (d3K wide) hr h
theorem of_lt (l : List Int) (wide : Bool) (h : Bytes l) : ofN l wide < 2 ^ wid wide := Nat.xor_lt_two_pow (c0V l wide _ (b2k wide) h) (b2k wide)
theorem c6e (wide : Bool) : 256 ^ a2h wide = 2 ^ wid wide := by cases wide <;> decide
theorem d3M (x s : List Int) (wide : Bool) (hx : Bytes x) (hs : Bytes s) (hl : s.length = a2h wide) : a4A (byN wide) (a7z wide) (x ++ s) = d3J wide ↔ s = leb (ofN x wide : Int) (a2h wide) := by
 have h1 : a4A (byN wide) (a7z wide) (x ++ s) = Sn (byN wide) (wid wide) (a4A (byN wide) (a7z wide) x ^^^ leN s) := by
  rw [c0T, d3G _ _ s, hl, ← c3S]
 have hm := c0V x wide _ (b2k wide) hx
 have hn : leN s < 2 ^ wid wide := by
  have := e5m hs
  rwa [hl, ← c3S] at this
 rw [h1, ← d8J]
 constructor
 ·intro h; have e := e5l (wid wide) (e5n wide) (d3K wide) (by have := d3L wide; omega) (Nat.xor_lt_two_pow hm hn) (b2k wide) h; have e2 : leN s = ofN x wide := by
   unfold ofN
   conv => rhs; rhs; rw [← e]
   rw [← Nat.xor_assoc, Nat.xor_self, Nat.zero_xor]
  rw [← e2, ← hl, d8I hs]
 ·intro h; have e2 : leN s = ofN x wide := by
   rw [h, d8H _ _ (by rw [c6e]; exact of_lt x wide hx)]
  rw [e2]; unfold ofN; rw [← Nat.xor_assoc, Nat.xor_self, Nat.zero_xor]
theorem a8e {a b : Nat} (ha : a < 4294967296) (hb : b < 4294967296) : Go.bits .xor .u32 (a : Int) (b : Int) = ((a ^^^ b : Nat) : Int) := by
 have h1 : a ^^^ b < 2 ^ 32 := Nat.xor_lt_two_pow (by omega) (by omega)
 have e2 : (BitVec.ofNat 32 a ^^^ BitVec.ofNat 32 b).toNat = a ^^^ b := by
  rw [BitVec.toNat_xor, BitVec.toNat_ofNat, BitVec.toNat_ofNat, Nat.mod_eq_of_lt (show a < 2 ^ 32 by omega), Nat.mod_eq_of_lt (show b < 2 ^ 32 by omega)]
 have e3 := d3z (x := ((a ^^^ b : Nat) : Int)) (by omega) (by omega)
 rw [← e2] at e3
 rw [← e2]
 exact e3
theorem c3T {a b : Nat} (ha : a < 256) (hb : b < 256) : Go.bits .xor .u8 (a : Int) (b : Int) = ((a ^^^ b : Nat) : Int) := by
 have h1 : a ^^^ b < 2 ^ 8 := Nat.xor_lt_two_pow (by omega) (by omega)
 have e2 : (BitVec.ofNat 8 a ^^^ BitVec.ofNat 8 b).toNat = a ^^^ b := by
  rw [BitVec.toNat_xor, BitVec.toNat_ofNat, BitVec.toNat_ofNat, Nat.mod_eq_of_lt (by simpa using ha), Nat.mod_eq_of_lt (by simpa using hb)]
 have e3 := wraps_u8 (((a ^^^ b : Nat) : Int)) (by omega) (by omega)
 rw [← e2] at e3
 rw [← e2]
 exact e3
theorem d8K (p n : Nat) (hp : p < 2 ^ 32) (hn : n < 2 ^ 32) : F7.bit (p : Int) (n : Int) = ((S p n : Nat) : Int) := by
 unfold F7.bit S
 rw [c8d (by omega) (by omega), show ((n : Int) / 2) = ((n / 2 : Nat) : Int) by omega]
 by_cases h : n % 2 = 1
 ·rw [if_pos (by omega), if_pos h, a8e (by omega) (by omega)]
 ·rw [if_neg (by omega), if_neg h]
theorem d3N (p n k : Nat) (hp : p < 2 ^ 32) (hn : n < 2 ^ 32) : F7.b0t (p : Int) k (n : Int) = ((Sn p k n : Nat) : Int) := by
 induction k with
 | zero => rfl
 | succ k ih => rw [F7.b0t, ih, d8K _ _ hp (c8h k hp hn)]; rfl
theorem e5p (wide : Bool) : F7.by wide = (byN wide : Int) := by cases wide <;> rfl
theorem d3O (wide : Bool) : byN wide < 2 ^ 32 := by cases wide <;> decide
theorem b4r (wide : Bool) : a7z wide < 4294967296 := by cases wide <;> decide
theorem c3V (wide : Bool) : a3Y.f wide = some (a7z wide : Int) := by cases wide <;> rfl
theorem c3W (wide : Bool) : a2M.f wide = some (a2h wide : Int) := by cases wide <;> rfl
theorem d8L (p r : Nat) (c : Int) (hp : p < 2 ^ 32) (hr : r < 2 ^ 32) (hc : 0 ≤ c ∧ c < 256) : a0i.stp (p : Int) (r : Int) c = ((c6d p r c : Nat) : Int) := by
 obtain ⟨n, rfl⟩ := Int.eq_ofNat_of_zero_le hc.1
 have h1 : r % 256 ^^^ n < 2 ^ 8 := Nat.xor_lt_two_pow (by omega) (by omega)
 have h2 : r % 256 ^^^ n < 2 ^ 32 := by omega
 unfold a0i.stp c6d
 rw [show ((r : Int) % 256) = ((r % 256 : Nat) : Int) by omega, c3T (by omega) (by omega), d3N _ _ _ hp h2, show ((r : Int) / 256) = ((r / 256 : Nat) : Int) by omega, Int.toNat_natCast]
 exact a8e (by omega) (c8h 8 hp h2)
theorem d3P (p : Nat) (hp : p < 2 ^ 32) (l : List Int) (hl : Bytes l) : ∀ r : Nat, r < 2 ^ 32 → l.foldl (a0i.stp (p : Int)) (r : Int) = ((a4A p r l : Nat) : Int) := by
 induction l with
 | nil => intro r hr; rfl
 | cons c l ih =>
  intro r hr; have hc := hl c (by simp); rw [List.foldl_cons, d8L p r c hp hr hc, ih (fun x hx => hl x (by simp [hx])) _ (c0U (by decide) hp hr hc)]
  rfl
theorem c8i (n : Nat) (wide : Bool) : n &&& a7z wide = n % 2 ^ wid wide := Nat.and_two_pow_sub_one_eq_mod n (wid wide)
theorem d1M (n : Nat) (l : List Int) (wide : Bool) (hn : n < 4294967296) (hl : Bytes l) : a0i.f (n : Int) l wide = some ((a4A (byN wide) (n % 2 ^ wid wide) l : Nat) : Int) := by
 unfold a0i.f
 rw [c3V, Option.bind_some, e5p, b4n hn (b4r wide), c8i, d3P _ (d3O wide) l hl]
 have : n % 2 ^ wid wide ≤ n := Nat.mod_le _ _
 omega
theorem c8j (wide : Bool) : a7z wide % 2 ^ wid wide = a7z wide := Nat.mod_eq_of_lt (b2k wide)
theorem d3Q (l : List Int) (wide : Bool) (hl : Bytes l) : a0i.f (a7z wide : Int) l wide = some ((a4A (byN wide) (a7z wide) l : Nat) : Int) := by
 have := d1M (a7z wide) l wide (b4r wide) hl
 rwa [c8j] at this
theorem g0q {n : Nat} {wide : Bool} (h : n < 2 ^ wid wide) : n < 4294967296 := by
 have : 2 ^ wid wide ≤ 2 ^ 32 := Nat.pow_le_pow_right (by decide) (e5o wide)
 omega
def c8k (l : List Int) (wide : Bool) : List Int := l ++ leb (ofN l wide : Int) (a2h wide)
theorem c3X {l : List Int} (h : Bytes l) (wide : Bool) : Bytes (c8k l wide) := h.append (b5G _ _)
theorem b1o (wide : Bool) : a2h wide ≤ 4 := by cases wide <;> decide
def b4s (l : List Int) (wide : Bool) : Bool := decide (a2h wide ≤ l.length) && decide (a4A (byN wide) (a7z wide) l = d3J wide)
theorem d1N (l : List Int) (wide : Bool) (hl : Bytes l) : a7A.f l wide = some (b4s l wide) := by
 unfold a7A.f b4s
 simp only [c3W, c3V, d3Q l wide hl, Option.bind_some]
 by_cases h : a2h wide ≤ l.length
 ·have h' : (l.length : Int) ≥ (a2h wide : Int) := by omega
  simp only [h, h', decide_true, Bool.true_and, if_true]
  have e : ∀ a b : Nat, ((a : Int) == (b : Int)) = decide (a = b) := fun a b => by
   rw [Bool.eq_iff_iff, beq_iff_eq, decide_eq_true_iff]
   omega
  cases wide
  ·simp only [Bool.false_eq_true, if_false]
   exact congrArg some (e _ 61624)
  ·simp only [if_true]
   exact congrArg some (e _ 3736805603)
 ·have h' : ¬ (l.length : Int) ≥ (a2h wide : Int) := by omega
  simp only [h, h', decide_false, Bool.false_and, if_false]
  cases wide <;> rfl
def a8H (l : List Int) (wide : Bool) : List Int × Bool := if b4s l wide = true then (l.take (l.length - a2h wide), true) else ([], false)
theorem d1O (l : List Int) (wide : Bool) (hl : Bytes l) (hn : l.length ≤ 100000) : a8I.f l wide = some (a8H l wide) := by
 unfold a8I.f a8H
 rw [d1N l wide hl, Option.bind_some]
 have h4 := b1o wide
 by_cases h : b4s l wide = true
 ·have hs : a2h wide ≤ l.length := by
   unfold b4s at h
   simp only [Bool.and_eq_true, decide_eq_true_eq] at h
   exact h.1
  rw [if_pos h, if_pos h, c3W, Option.bind_some, w64 (by omega) (by omega), if_pos (by omega), if_pos (by omega), show (((l.length : Int) - (a2h wide : Int)).toNat) = l.length - a2h wide by omega]; unfold O9.f; rw [if_pos (by rw [List.length_take]; omega)]
  rfl
 ·rw [if_neg h, if_neg h]
theorem d1P (l : List Int) (wide : Bool) (hl : Bytes l) (hs : a2h wide ≤ l.length) : b4s l wide = true ↔ c8k (l.take (l.length - a2h wide)) wide = l := by
 have e := List.take_append_drop (l.length - a2h wide) l
 have h := d3M (l.take (l.length - a2h wide)) (l.drop (l.length - a2h wide)) wide (hl.take _) (hl.drop _) (by rw [List.length_drop]; omega)
 rw [e] at h
 unfold b4s
 simp only [hs, decide_true, Bool.true_and, decide_eq_true_eq]
 rw [h]
 unfold c8k
 constructor
 ·intro h1; rw [← h1, e]
 ·intro h1; have h2 : l.take (l.length - a2h wide) ++ leb (ofN (l.take (l.length - a2h wide)) wide : Int) (a2h wide) = l.take (l.length - a2h wide) ++ l.drop (l.length - a2h wide) := by rw [h1, e]
  exact (List.append_cancel_left h2).symm
theorem a8J (m : Int) : ∀ (l : List Int) (b : Bool) (acc : List Int), Bytes l → Bytes acc → Bytes (b06 m l b acc).1
 | [], b, acc, _, ha => by
  unfold b06
  split
  ·exact Bytes.nil
  ·exact ha
 | c :: t, b, acc, hl, ha => by
  have hc := hl c (by simp); have ht : Bytes t := fun x hx => hl x (by simp [hx])
  unfold b06
  split
  ·exact Bytes.nil
  ·split
   ·exact a8J m t b acc ht ha
   ·split
    ·exact a8J m t false _ ht (ha.append (Bytes.cons (c3Q hc) Bytes.nil))
    ·split
     ·exact a8J m t true acc ht ha
     ·exact a8J m t b _ ht (ha.append (Bytes.cons hc Bytes.nil))
theorem a8K {l : List Int} (h : Bytes l) (m : Int) : Bytes (X9 l m).1 := a8J m l false [] h Bytes.nil
theorem c8l (wide : Bool) : DF.size wide = (a2h wide : Int) := by cases wide <;> rfl
def a4t (m : Int) (wide : Bool) (s : DF) : DF :=
 if (X9 s.held m).2 = true then
  if (X9 s.held m).1.length = 0 then s
  else if ((X9 s.held m).1.length : Int) < DF.size wide + 2 then { s with ts := wrap64 (s.ts + 1) }
  else if ((X9 s.held m).1.length : Int) > DF.size wide + 65535 then { s with tl := wrap64 (s.tl + 1) }
  else if (a8H (X9 s.held m).1 wide).2 = true then { s with tg := wrap64 (s.tg + 1), done := s.done ++ [(a8H (X9 s.held m).1 wide).1] }
  else { s with tw := wrap64 (s.tw + 1) }
 else { s with ta := wrap64 (s.ta + 1) }
theorem c6f (m : Int) (wide : Bool) (s : DF) (h0 : 0 ≤ m) (h1 : m < 4294967296) (hb : Bytes s.held) (hl : s.held.length < 70368744177664) (hd : s.done.length < 5864062014805) : Ev (fun k => DF.close k m wide s) (a4t m wide s) := by
 unfold DF.close
 refine Ev.bind (c0S s.held m hb h0 h1 hl) ?_
 have hz := DF.size_le wide
 have hu := a8K hb m
 unfold a4t
 by_cases a : (X9 s.held m).2 = true
 ·simp only [a, if_true]
  by_cases b : (X9 s.held m).1.length = 0
  ·simp only [b, if_true]
   exact Ev.now _
  ·simp only [b, if_false]
   by_cases c : ((X9 s.held m).1.length : Int) < DF.size wide + 2
   ·simp only [c, if_true]
    exact Ev.now _
   ·simp only [c, if_false]
    by_cases d : ((X9 s.held m).1.length : Int) > DF.size wide + 65535
    ·simp only [d, if_true]
     exact Ev.now _
    ·simp only [d, if_false]
     rw [d1O _ wide hu (by omega)]
     simp only [Option.bind_some]
     by_cases e : (a8H (X9 s.held m).1 wide).2 = true
     ·simp only [e, if_true, hd]
      exact Ev.now _
     ·simp only [e, if_false]
      exact Ev.now _
 ·simp only [a, if_false]
  exact Ev.now _
def a4b (m : Int) (wide : Bool) (s : DF) (c : Int) : DF :=
 if s.inn = true then if c = 126 then { a4t m wide s with held := [] } else { s with held := s.held ++ [c] }
 else if c = 126 then { s with inn := true } else s
def X6 (m : Int) (wide : Bool) (s : DF) (l : List Int) : DF := l.foldl (a4b m wide) s
theorem b9V (m : Int) (wide : Bool) (s : DF) : X6 m wide s [] = s := rfl
theorem a8L (m : Int) (wide : Bool) (s : DF) (c : Int) (l : List Int) : X6 m wide s (c :: l) = X6 m wide (a4b m wide s c) l := rfl
theorem c0W (m : Int) (wide : Bool) (s : DF) (a b : List Int) : X6 m wide s (a ++ b) = X6 m wide (X6 m wide s a) b := by unfold X6; rw [List.foldl_append]
theorem b6d (m : Int) (wide : Bool) (s : DF) : (a4t m wide s).held = s.held ∧ (a4t m wide s).inn = s.inn ∧ (a4t m wide s).done.length ≤ s.done.length + 1 := by
 unfold a4t
 repeat' split
 all_goals exact ⟨rfl, rfl, by first | (simp; done) | omega⟩
theorem b7R (m : Int) (wide : Bool) (s : DF) (c : Int) : (a4b m wide s c).held.length ≤ s.held.length + 1 ∧ (a4b m wide s c).done.length ≤ s.done.length + 1 := by
 have h := b6d m wide s
 unfold a4b
 repeat' split
 ·exact ⟨by simp, h.2.2⟩
 ·exact ⟨by simp, by simp⟩
 ·exact ⟨by simp, by simp⟩
 ·exact ⟨by omega, by omega⟩
theorem b1p {m : Int} {wide : Bool} {s : DF} {c : Int} (hs : Bytes s.held) (hc : 0 ≤ c ∧ c < 256) : Bytes (a4b m wide s c).held := by
 unfold a4b
 repeat' split
 ·exact Bytes.nil
 ·exact hs.append (Bytes.cons hc Bytes.nil)
 ·exact hs
 ·exact hs
theorem d1Q (m : Int) (wide : Bool) (s : DF) (c : Int) (h0 : 0 ≤ m) (h1 : m < 4294967296) (hb : Bytes s.held) (hl : s.held.length < 70368744177664) (hd : s.done.length < 5864062014805) : Ev (fun k => DF.step k m wide s c) (a4b m wide s c) := by
 unfold DF.step a4b
 by_cases a : s.inn = true
 ·simp only [a, if_true]
  by_cases b : c = 126
  ·simp only [b, if_true]
   exact Ev.bind (c6f m wide s h0 h1 hb hl hd) (Ev.now _)
  ·simp only [b, if_false, show s.held.length < 140737488355328 by omega, if_true]
   exact Ev.now _
 ·simp only [a, if_false]
  by_cases b : c = 126
  ·simp only [b, if_true]
   exact Ev.now _
  ·simp only [b, if_false]
   exact Ev.now _
theorem b9W (m : Int) (wide : Bool) (h0 : 0 ≤ m) (h1 : m < 4294967296) : ∀ (l : List Int) (s : DF), Bytes l → Bytes s.held → s.held.length + l.length ≤ 1000000000 → s.done.length + l.length ≤ 1000000000 → Ev (fun k => DF.feed k m wide s l) (X6 m wide s l)
 | [], s, _, _, _, _ => Ev.now _
 | c :: l, s, hl, hs, h2, h3 => by
  have hc := hl c (by simp); have ht : Bytes l := fun x hx => hl x (by simp [hx])
  rw [List.length_cons] at h2 h3; have h4 := b7R m wide s c; exact Ev.bind (d1Q m wide s c h0 h1 hs (by omega) (by omega)) (b9W m wide h0 h1 l _ ht (b1p hs hc) (by omega) (by omega))
def g0r (m : Int) (wide : Bool) (l : List Int) : (List (List Int)) × Int × Int × Int × Int × Int :=
 ((X6 m wide DF.init l).done, (X6 m wide DF.init l).tg, (X6 m wide DF.init l).ta, (X6 m wide DF.init l).ts, (X6 m wide DF.init l).tl, (X6 m wide DF.init l).tw)
def a5S : Bool → List Int → List Int → List (List Int)
 | _, _, [] => []
 | true, h, c :: l => if c = 126 then h :: a5S true [] l else a5S true (h ++ [c]) l
 | false, h, c :: l => if c = 126 then a5S true h l else a5S false h l
def norm (s : DF) : DF := { s with inn := false, held := [] }
def tally (m : Int) (wide : Bool) (s : DF) (f : List Int) : DF := norm (a4t m wide { s with held := f })
theorem c6g (m : Int) (wide : Bool) (s : DF) : norm { a4t m wide s with held := [] } = tally m wide (norm s) s.held := by
 unfold tally norm a4t
 simp only []
 repeat' split
 all_goals rfl
theorem a8M (m : Int) (wide : Bool) : ∀ (l : List Int) (s : DF), (s.inn = false → s.held = []) → norm (X6 m wide s l) = (a5S s.inn s.held l).foldl (tally m wide) (norm s)
 | [], s, _ => by
  unfold a5S
  rfl
 | c :: l, s, hs => by
  rw [a8L]
  cases hi : s.inn with
  | true =>
   by_cases b : c = 126
   ·have e : a4b m wide s c = { a4t m wide s with held := [] } := by unfold a4b; rw [if_pos hi, if_pos b]
    have hin : (a4b m wide s c).inn = true := by rw [e]; exact (b6d m wide s).2.1.trans hi
    rw [a8M m wide l (a4b m wide s c) (fun h => by rw [hin] at h; cases h), hin, a5S, if_pos b, List.foldl_cons, ← c6g, e]
   ·have e : a4b m wide s c = { s with held := s.held ++ [c] } := by unfold a4b; rw [if_pos hi, if_neg b]
    have hin : (a4b m wide s c).inn = true := by rw [e]; exact hi
    rw [a8M m wide l (a4b m wide s c) (fun h => by rw [hin] at h; cases h), hin, a5S, if_neg b, e]
    rfl
  | false =>
   have hh := hs hi
   by_cases b : c = 126
   ·have e : a4b m wide s c = { s with inn := true } := by unfold a4b; rw [if_neg (by rw [hi]; decide), if_pos b]
    rw [a8M m wide l (a4b m wide s c) (fun h => by rw [e] at h; cases h), e, a5S, if_pos b]
    rfl
   ·have e : a4b m wide s c = s := by unfold a4b; rw [if_neg (by rw [hi]; decide), if_neg b]
    rw [e, a8M m wide l s hs, hi, a5S, if_neg b]
theorem c3Y (wide : Bool) : a0O.f wide = some (a7z wide : Int) := by cases wide <;> rfl
theorem b2l (wide : Bool) : N9.f wide = some (a2h wide : Int) := by cases wide <;> rfl
theorem c6h (p : Nat) (hp : p < 2 ^ 32) (l : List Int) (i : Nat) (r : Nat) (d : Nat) : ∀ (j w : Nat), j + d = 8 → w < 2 ^ 32 →
  Ev (fun k => D9.l0 k l (p : Int) ((Sn p d w : Nat) : Int) (wrap64 ((i : Int) + 1))) (r : Int) →
  Ev (fun k => D9.l1 k l (p : Int) (w : Int) (i : Int) (j : Int)) (r : Int) := by
 induction d with
 | zero =>
  intro j w hj hw h; refine Ev.step (fun k => ?_) h; rw [D9.l1, if_neg (by omega)]
  rfl
 | succ d ih =>
  intro j w hj hw h; rw [Sn_succ] at h; refine Ev.step (fun k => ?_) (ih (j + 1) (S p w) (by omega) (b9m hp hw) h); rw [D9.l1, if_pos (by omega)]; have e1 : Int.tmod (w : Int) 2 = ((w % 2 : Nat) : Int) := by
   rw [Int.tmod_eq_emod_of_nonneg (by omega)]
   omega
  have e2 : Int.tdiv (w : Int) 2 % 4294967296 = ((w / 2 : Nat) : Int) := by
   rw [Int.tdiv_eq_ediv_of_nonneg (by omega)]
   omega
  rw [e1, e2, w64 (by omega) (by omega)]; unfold S
  by_cases c : w % 2 = 1
  ·rw [if_pos (by omega), if_pos c, a8e (by omega) (by omega)]
   rfl
  ·rw [if_neg (by omega), if_neg c]
   rfl
theorem c6i (p : Nat) (hp : p < 2 ^ 32) (l : List Int) (hl : Bytes l) (hn : l.length ≤ 100000) (d : Nat) : ∀ (i w : Nat), l.length - i = d → i ≤ l.length → w < 2 ^ 32 →
  Ev (fun k => D9.l0 k l (p : Int) (w : Int) (i : Int)) ((a4A p w (l.drop i) : Nat) : Int) := by
 induction d with
 | zero =>
  intro i w hd hi hw; refine Ev.step (f := fun _ => some ((a4A p w (l.drop i) : Nat) : Int)) (fun k => ?_) (Ev.now _); rw [D9.l0, if_neg (by omega), List.drop_of_length_le (by omega)]
  rfl
 | succ d ih =>
  intro i w hd hi hw; have hil : i < l.length := by omega
  have hc := hl _ (List.getElem_mem hil); obtain ⟨c, e⟩ := Int.eq_ofNat_of_zero_le hc.1; have hc2 : c < 256 := by omega
  rw [List.drop_eq_getElem_cons hil, b7Q]; refine Ev.step (fun k => ?_) (c6h p hp l i _ 8 0 (w ^^^ c) (by omega) (Nat.xor_lt_two_pow hw (by omega)) ?_)
  ·rw [D9.l0, if_pos (by omega), if_pos (by omega), a2p i hil, e, show ((c : Int) % 4294967296) = (c : Int) by omega, a8e (by omega) (by omega)]
   rfl
  ·have h := ih (i + 1) (c6d p w l[i]) (by omega) (by omega) (c0U (by decide) hp hw hc); rw [w64 (by omega) (by omega)]; rw [b6L, e, Int.toNat_natCast] at h; rw [b6L, e, Int.toNat_natCast]; exact h
theorem c6j (n : Nat) (l : List Int) (wide : Bool) (hn : n < 4294967296) (hl : Bytes l) (hs : l.length ≤ 100000) : Ev (fun k => D9.f k (n : Int) l wide) ((a4A (byN wide) (n % 2 ^ wid wide) l : Nat) : Int) := by
 have hm : n % 2 ^ wid wide < 2 ^ 32 := by
  have : n % 2 ^ wid wide ≤ n := Nat.mod_le _ _
  omega
 have h := c6i (byN wide) (d3O wide) l hl hs l.length 0 (n % 2 ^ wid wide) (by omega) (by omega) hm
 rw [List.drop_zero] at h
 have hj : Ev (fun k => D9.j0 k (n : Int) l wide (byN wide : Int)) ((a4A (byN wide) (n % 2 ^ wid wide) l : Nat) : Int) := by
  refine Ev.step (fun k => ?_) h; rw [D9.j0, c3Y, Option.bind_some, b4n hn (b4r wide), c8i]
  rfl
 unfold D9.f
 cases wide
 ·exact hj
 ·exact hj
theorem d1R (l : List Int) (wide : Bool) (hl : Bytes l) (hs : l.length ≤ 100000) : Ev (fun k => D9.f k (a7z wide : Int) l wide) ((a4A (byN wide) (a7z wide) l : Nat) : Int) := by
 have := c6j (a7z wide) l wide (b4r wide) hl hs
 rwa [c8j] at this
theorem d3R (l : List Int) (wide : Bool) (hl : Bytes l) (hs : l.length ≤ 100000) : Ev (fun k => a3n.f k l wide) ((ofN l wide : Nat) : Int) := by
 unfold a3n.f
 simp only [c3Y, Option.bind_some]
 refine Ev.bind (d1R l wide hl hs) ?_
 have h1 := c0V l wide _ (b2k wide) hl
 have h2 := d3I h1
 have h3 := b4r wide
 have h4 : a4A (byN wide) (a7z wide) l ≤ a7z wide := by
  unfold a7z at h1 ⊢
  omega
 have h5 : (((a7z wide : Nat) : Int) - ((a4A (byN wide) (a7z wide) l : Nat) : Int)) % 4294967296 = ((ofN l wide : Nat) : Int) := by
  unfold ofN; unfold a7z at h2 h3 h4 ⊢; rw [← h2]
  omega
 rw [h5]
 exact Ev.now _
theorem c6k (wide : Bool) (d : Nat) : ∀ (i : Nat) (acc : List Int) (n : Int), a2h wide = i + d → acc.length + d < 140737488355328 → 0 ≤ n → n < 4294967296 →
  Ev (fun k => V6.l0 k wide acc n (i : Int)) (acc ++ leb n d) := by
 have h4 := b1o wide
 induction d with
 | zero =>
  intro i acc n hs ha hn hn1; refine Ev.step (f := fun _ => some (acc ++ leb n 0)) (fun k => ?_) (Ev.now _); rw [V6.l0, b2l, Option.bind_some, if_neg (by omega)]
  simp [leb]
 | succ d ih =>
  intro i acc n hs ha hn hn1; have next := ih (i + 1) (acc ++ [n % 256]) (n / 256) (by omega) (by simp; omega) (by omega) (by omega); rw [List.append_assoc] at next; refine Ev.step (fun k => ?_) next; have e1 : Int.tmod n 256 % 256 = n % 256 := by
   rw [Int.tmod_eq_emod_of_nonneg hn]
   omega
  have e2 : Int.tdiv n 256 % 4294967296 = n / 256 := by
   rw [Int.tdiv_eq_ediv_of_nonneg hn]
   omega
  rw [V6.l0, b2l, Option.bind_some, if_pos (by omega), if_pos (by omega), e1, e2, w64 (by omega) (by omega)]
  rfl
theorem c6l (l : List Int) (wide : Bool) (hl : Bytes l) (hn : l.length ≤ 100000) : Ev (fun k => V6.f k l wide) (c8k l wide) := by
 have h4 := b1o wide
 have h := c6k wide (a2h wide) 0 l (ofN l wide : Int) (by omega) (by omega) (by omega) (by have := g0q (of_lt l wide hl); omega)
 unfold V6.f
 simp only [List.length_nil, Nat.zero_add, List.nil_append, show l.length < 140737488355328 by omega, if_true]
 exact Ev.bind (d3R l wide hl hn) h
theorem c6m (l : List Int) (wide : Bool) (hl : Bytes l) (hn : l.length ≤ 100000) : Ev (fun k => Q9.f k l wide) (a8H l wide) := by
 have h4 := b1o wide
 unfold Q9.f
 rw [b2l]
 simp only [Option.bind_some]
 rw [w64 (by omega) (by omega)]
 by_cases hs : a2h wide ≤ l.length
 ·have e : ((l.length : Int) - (a2h wide : Int)).toNat = l.length - a2h wide := by omega
  simp only [e, show ¬ ((l.length : Int) - (a2h wide : Int) < 0) by omega, show (0 : Int) ≤ (l.length : Int) - (a2h wide : Int) by omega, show (l.length : Int) - (a2h wide : Int) ≤ (l.length : Int) by omega, if_true, if_false]
  refine Ev.bind (c6l (l.take (l.length - a2h wide)) wide (hl.take _) (by rw [List.length_take]; omega)) ?_; have g := d1P l wide hl hs; have i := d1D (c3X (hl.take (l.length - a2h wide)) wide) hl; unfold a8H
  by_cases c : b4s l wide = true
  ·rw [if_pos (i.2 (g.1 c)), if_pos c, if_pos (by rw [List.length_nil, List.length_take]; omega), List.nil_append]; exact Ev.now _
  ·rw [if_neg (fun h => c (g.2 (i.1 h))), if_neg c]; exact Ev.now _
 ·simp only [show ((l.length : Int) - (a2h wide : Int) < 0) by omega, if_true]
  unfold a8H b4s
  simp only [hs, decide_false, Bool.false_and, Bool.false_eq_true, if_false]
  exact Ev.now _
theorem d8M (l : List (List Int)) (i : Nat) (h : i < l.length) : a1T l (i : Int) = l[i] := by
 unfold a1T
 rw [Int.toNat_natCast, List.getD_eq_getElem?_getD, List.getElem?_eq_getElem h]
 rfl
def ahead (d : List (List Int)) (s : DF) : DF := { s with done := d ++ s.done }
theorem c0X (m : Int) (wide : Bool) (d : List (List Int)) (s : DF) : a4t m wide (ahead d s) = ahead d (a4t m wide s) := by
 unfold a4t ahead
 simp only []
 repeat' split
 all_goals simp_all
theorem c3Z (m : Int) (wide : Bool) (d : List (List Int)) (s : DF) (c : Int) : a4b m wide (ahead d s) c = ahead d (a4b m wide s c) := by
 unfold a4b
 have hi : (ahead d s).inn = s.inn := rfl
 have hh : (ahead d s).held = s.held := rfl
 rw [hi, hh]
 by_cases a : s.inn = true
 ·rw [if_pos a, if_pos a]
  by_cases b : c = 126
  ·rw [if_pos b, if_pos b, c0X]
   rfl
  ·rw [if_neg b, if_neg b]
   rfl
 ·rw [if_neg a, if_neg a]
  by_cases b : c = 126
  ·rw [if_pos b, if_pos b]
   rfl
  ·rw [if_neg b, if_neg b]
theorem b6e (m : Int) (wide : Bool) (d : List (List Int)) : ∀ (l : List Int) (s : DF), X6 m wide (ahead d s) l = ahead d (X6 m wide s l)
 | [], _ => rfl
 | c :: l, s => by rw [a8L, a8L, c3Z, b6e m wide d l]
theorem c6n (s : DF) : s = ahead s.done { s with done := [] } := by
 unfold ahead
 simp
theorem a1Z (m : Int) (wide : Bool) : ∀ (l : List Int) (s : DF), Bytes l → Bytes s.held → Bytes (X6 m wide s l).held ∧ (X6 m wide s l).held.length ≤ s.held.length + l.length ∧ (X6 m wide s l).done.length ≤ s.done.length + l.length
 | [], s, _, hs => ⟨hs, by simp [b9V], by simp [b9V]⟩
 | c :: l, s, hl, hs => by
  have hc := hl c (by simp); have ht : Bytes l := fun x hx => hl x (by simp [hx])
  have h := a1Z m wide l (a4b m wide s c) ht (b1p hs hc); have h2 := b7R m wide s c; rw [a8L, List.length_cons]; exact ⟨h.1, by omega, by omega⟩
theorem c8m (v b : Int) (h0 : 0 ≤ v) (h1 : v < 72057594037927936) (hb : 0 ≤ b ∧ b < 256) : Go.bits .or .u64 (IntKind.u64.wrap (v * 256)) (IntKind.u64.wrap b) = v * 256 + b := by
 rw [b6b (by omega) (by omega), b6b (by omega) (by omega)]
 exact c55 (i := 8) (by omega) (by omega) (by omega) (by omega) (by omega) (by omega)
theorem d3S (x : List Int) (hb : Bytes x) (hl : x.length ≤ 8) (big : Bool) (d : Nat) : ∀ i : Nat, x.length - i = d → i ≤ x.length →
  Ev (fun k => X3.l0 k x big (a0l ((if big then x else x.reverse).take i)) (x.length : Int) (i : Int)) (a9K x big, true) := by
 induction d with
 | zero =>
  intro i hd hi; obtain rfl : i = x.length := by omega
  refine Ev.step (f := fun _ => some (a9K x big, true)) (fun k => ?_) (Ev.now _); rw [X3.l0, if_neg (by omega)]; unfold a9K
  cases big <;> simp [List.take_of_length_le]
 | succ d ih =>
  intro i hd hi; refine Ev.step (f := fun k => X3.l0 k x big (a0l ((if big then x else x.reverse).take (i + 1))) (x.length : Int) ((i + 1 : Nat) : Int)) (fun k => ?_) (ih (i + 1) (by omega) (by omega)); have hr : 0 ≤ a0l ((if big then x else x.reverse).take i) ∧ a0l ((if big then x else x.reverse).take i) < 72057594037927936 := by
   have hbb : Bytes ((if big then x else x.reverse).take i) := by
    cases big
    ·exact hb.reverse.take i
    ·exact hb.take i
   have := a6j _ hbb; have h2 := b2j (i := ((if big then x else x.reverse).take i).length) (j := 7) (by rw [List.length_take]; omega); rw [show (256 : Int) ^ 7 = 72057594037927936 from by decide] at h2; exact ⟨this.1, Int.lt_of_lt_of_le this.2 h2⟩
  rw [X3.l0, if_pos (by omega), w64 (x := (x.length : Int) - 1) (by omega) (by omega), w64 (x := (x.length : Int) - 1 - (i : Int)) (by omega) (by omega), if_pos (by omega), if_pos (by omega)]
  cases big
  ·simp only [Bool.false_eq_true, if_false] at hr ⊢
   rw [c8m _ _ hr.1 hr.2 (hb.at _), w64 (by omega) (by omega)]; rw [List.take_succ_eq_append_getElem (by simp; omega), a5i, List.getElem_reverse]; rw [show ((x.length : Int) - 1 - (i : Int)) = ((x.length - 1 - i : Nat) : Int) by omega, a2p (a := x) (x.length - 1 - i) (by omega)]
   rfl
  ·simp only [if_true] at hr ⊢
   rw [if_pos (by omega), if_pos (by omega), c8m _ _ hr.1 hr.2 (hb.at _), w64 (by omega) (by omega)]; rw [List.take_succ_eq_append_getElem (by omega), a5i, a2p (a := x) i (by omega)]
   rfl
theorem c39 (x : List Int) (hb : Bytes x) (big : Bool) : Ev (fun k => X3.f k x big) (if 1 ≤ x.length ∧ x.length ≤ 8 then (a9K x big, true) else (0, false)) := by
 unfold X3.f
 by_cases a : (x.length : Int) < 1
 ·simp only [a, if_true]
  rw [if_neg (by omega)]; refine Ev.step (f := fun _ => some (0, false)) (fun k => ?_) (Ev.now _); rw [X3.j0, if_pos rfl]
 ·simp only [a, if_false]
  by_cases b : (x.length : Int) > 8
  ·rw [if_neg (by omega)]; refine Ev.step (f := fun _ => some (0, false)) (fun k => ?_) (Ev.now _); rw [X3.j0, if_pos (by simpa using b)]
  ·rw [if_pos (by omega)]; refine Ev.step (f := fun k => X3.l0 k x big 0 (x.length : Int) 0) (fun k => ?_) ?_
   ·rw [X3.j0, if_neg (by simpa using b)]
   ·have := d3S x hb (by omega) big x.length 0 (by omega) (by omega)
    simpa [a0l] using this
theorem d1S (x : List Int) (hb : Bytes x) (hl : x.length ≤ 8) (big : Bool) (d : Nat) : ∀ i : Nat, x.length - i = d → i ≤ x.length →
  Ev (fun k => P9.l0 k x big (a0l ((if big then x else x.reverse).take i)) (i : Int)) (a9K x big) := by
 induction d with
 | zero =>
  intro i hd hi; obtain rfl : i = x.length := by omega
  refine Ev.step (f := fun _ => some (a9K x big)) (fun k => ?_) (Ev.now _); rw [P9.l0, if_neg (by omega)]; unfold a9K
  cases big <;> simp [List.take_of_length_le]
 | succ d ih =>
  intro i hd hi; refine Ev.step (f := fun k => P9.l0 k x big (a0l ((if big then x else x.reverse).take (i + 1))) ((i + 1 : Nat) : Int)) (fun k => ?_) (ih (i + 1) (by omega) (by omega)); have hr : 0 ≤ a0l ((if big then x else x.reverse).take i) ∧ a0l ((if big then x else x.reverse).take i) < 72057594037927936 := by
   have hbb : Bytes ((if big then x else x.reverse).take i) := by
    cases big
    ·exact hb.reverse.take i
    ·exact hb.take i
   have := a6j _ hbb; have h2 := b2j (i := ((if big then x else x.reverse).take i).length) (j := 7) (by rw [List.length_take]; omega); rw [show (256 : Int) ^ 7 = 72057594037927936 from by decide] at h2; exact ⟨this.1, Int.lt_of_lt_of_le this.2 h2⟩
  have st : ∀ v b : Int, 0 ≤ v → v < 72057594037927936 → 0 ≤ b ∧ b < 256 → IntKind.u64.wrap (IntKind.u64.wrap (256 * v) + IntKind.u64.wrap b) = v * 256 + b := by
   intro v b a1 a2 a3; rw [b6b (x := 256 * v) (by omega) (by omega), b6b (x := b) (by omega) (by omega), b6b (by omega) (by omega)]
   omega
  rw [P9.l0, if_pos (by omega)]
  cases big
  ·simp only [Bool.false_eq_true, if_false] at hr ⊢
   rw [w64 (x := (x.length : Int) - 1) (by omega) (by omega), w64 (x := (x.length : Int) - 1 - (i : Int)) (by omega) (by omega), if_pos (by omega), if_pos (by omega)]; rw [st _ _ hr.1 hr.2 (hb.at _), w64 (by omega) (by omega)]; rw [List.take_succ_eq_append_getElem (by simp; omega), a5i, List.getElem_reverse]; rw [show ((x.length : Int) - 1 - (i : Int)) = ((x.length - 1 - i : Nat) : Int) by omega, a2p (a := x) (x.length - 1 - i) (by omega)]
   rfl
  ·simp only [if_true] at hr ⊢
   rw [if_pos (by omega), st _ _ hr.1 hr.2 (hb.at _), w64 (by omega) (by omega)]; rw [List.take_succ_eq_append_getElem (by omega), a5i, a2p (a := x) i (by omega)]
   rfl
theorem b9X (x : List Int) (hb : Bytes x) (hl : x.length ≤ 8) (big : Bool) : Ev (fun k => P9.f k x big) (a9K x big) := by
 show Ev (fun k => P9.l0 k x big 0 0) _
 have := d1S x hb hl big x.length 0 (by omega) (by omega)
 simpa [a0l] using this
def a3o (l : List Int) (a n : Nat) (big : Bool) : Int := a9K ((l.take (a + n)).drop a) big
theorem b6M (l : List Int) (a n : Nat) (h : a + n ≤ l.length) : ((l.take (a + n)).drop a).length = n := by
 rw [List.length_drop, List.length_take]; omega
theorem a8N (l : List Int) (hb : Bytes l) (a n : Nat) (big : Bool) (hn : n ≤ 4) (h : a + n ≤ l.length) : 0 ≤ a3o l a n big ∧ a3o l a n big < 4294967296 := by
 have h1 := c57 ((l.take (a + n)).drop a) big ((hb.take _).drop _)
 rw [b6M l a n h] at h1
 have h2 : (256 : Int) ^ n ≤ 256 ^ 4 := b2j hn
 have h3 : (256 : Int) ^ 4 = 4294967296 := by decide
 rw [h3] at h2
 exact ⟨h1.1, Int.lt_of_lt_of_le h1.2 h2⟩
theorem a4B (l : List Int) (hb : Bytes l) (a n : Nat) (big : Bool) (h1 : 1 ≤ n) (hn : n ≤ 4) (h : a + n ≤ l.length) : Ev (fun k => y8.num k l big (a : Int) (n : Int)) (a3o l a n big) := by
 have hr := a8N l hb a n big hn h
 have hl := b6M l a n h
 have e1 : ((a : Int) + (n : Int)).toNat = a + n := by omega
 have e2 : ((a : Int)).toNat = a := by omega
 have hg := c39 ((l.take (a + n)).drop a) ((hb.take _).drop _) big
 rw [if_pos (by rw [hl]; omega)] at hg
 unfold y8.num
 rw [e1, e2]
 refine Ev.bind hg ?_
 refine Ev.const ?_
 show some (a3o l a n big % 4294967296) = _
 rw [Int.emod_eq_of_lt hr.1 hr.2]
theorem a8m (l : List Int) (hb : Bytes l) (a : Nat) (big : Bool) (hm : l.length ≤ 4611686018427387904) (h : a + 4 ≤ l.length) : Ev (fun k => U3.f k l (a : Int) big) (a3o l a 4 big) := by
 have hr := a8N l hb a 4 big (by omega) h
 have hl := b6M l a 4 h
 have e0 : wrap64 ((a : Int) + 4) = (a : Int) + 4 := w64 (by omega) (by omega)
 have e1 : ((a : Int) + 4).toNat = a + 4 := by omega
 have e2 : ((a : Int)).toNat = a := by omega
 have hg := b9X ((l.take (a + 4)).drop a) ((hb.take _).drop _) (by rw [hl]; omega) big
 have hf : ∀ k, U3.f k l (a : Int) big = (P9.f k ((l.take (a + 4)).drop a) big).bind fun t => some (t % 4294967296) := by
  intro k; unfold U3.f; rw [e0, if_pos (by omega), if_pos (by omega), if_pos (by omega), e1, e2]
 refine Ev.congr hf ?_
 refine Ev.bind hg ?_
 refine Ev.const ?_
 show some (a3o l a 4 big % 4294967296) = _
 rw [Int.emod_eq_of_lt hr.1 hr.2]
def b6x (l : List Int) (at_ n : Int) : List Int × Bool :=
 if 0 ≤ at_ ∧ 0 ≤ n ∧ at_ + n ≤ l.length then ((l.drop at_.toNat).take n.toNat, true) else ([], false)
theorem b7S (l : List Int) (at_ n : Int) (hl : l.length < 140737488355328) (ha : at_ ≤ 9223372036854775807) : a2c.f l at_ n = some (b6x l at_ n) := by
 unfold a2c.f b6x
 by_cases a : at_ < 0
 ·rw [if_pos a, if_neg (by omega)]
 ·rw [if_neg a]
  by_cases b : n < 0
  ·rw [if_pos b, if_neg (by omega)]
  ·rw [if_neg b]
   by_cases c : at_ > (l.length : Int)
   ·rw [if_pos c, if_neg (by omega)]
   ·rw [if_neg c, w64 (x := (l.length : Int) - at_) (by omega) (by omega)]
    by_cases d : n > (l.length : Int) - at_
    ·rw [if_pos d, if_neg (by omega)]
    ·rw [if_neg d, if_pos (by omega), w64 (by omega) (by omega), if_pos (by omega), if_pos (by omega), if_pos (by omega)]; rw [b7M _ (by rw [List.length_drop, List.length_take]; omega)]
     simp only [Option.bind_some]
     rw [List.drop_take, show (at_ + n).toNat - at_.toNat = n.toNat by omega]
def a13 (l : List Int) (big : Bool) : Int × Int × Int × List Int × Int × Int :=
 if l.length < 16 then (0, 0, 0, [], 0, 2) else
 if a3o l 8 4 big > 131072 then (0, 0, 0, [], 0, 4) else
 if (l.length : Int) < 16 + a3o l 8 4 big then (0, 0, 0, [], 0, 2) else
 (a3o l 0 4 big, a3o l 4 4 big, a3o l 12 4 big, (l.drop 16).take (a3o l 8 4 big).toNat, 16 + a3o l 8 4 big, 0)
theorem d1T (l : List Int) (hb : Bytes l) (hm : l.length < 140737488355328) (big : Bool) : Ev (fun k => a4H.f k l big) (a13 l big) := by
 unfold a4H.f a13
 by_cases h : l.length < 16
 ·rw [if_pos h]; exact Ev.congr (fun k => if_pos (by omega)) (Ev.now _)
 ·rw [if_neg h]; refine Ev.congr (fun k => if_neg (by omega)) ?_; refine Ev.bind (a4B l hb 0 4 big (by omega) (by omega) (by omega)) ?_; refine Ev.bind (a4B l hb 4 4 big (by omega) (by omega) (by omega)) ?_; refine Ev.bind (a4B l hb 8 4 big (by omega) (by omega) (by omega)) ?_; refine Ev.bind (a4B l hb 12 4 big (by omega) (by omega) (by omega)) ?_; have hr := a8N l hb 8 4 big (by omega) (by omega); generalize a3o l 8 4 big = t at hr ⊢
  by_cases h2 : t > 131072
  ·rw [if_pos h2, if_pos h2]; exact Ev.now _
  ·rw [if_neg h2, if_neg h2]; rw [b7S l 16 t hm (by omega), Option.bind_some]
   by_cases h3 : (l.length : Int) < 16 + t
   ·have hc : b6x l 16 t = ([], false) := if_neg (fun hh => by have := hh.2.2; omega); rw [if_pos h3, hc]; exact Ev.now _
   ·have hc : b6x l 16 t = ((l.drop 16).take t.toNat, true) := if_pos ⟨by omega, hr.1, by omega⟩; rw [if_neg h3, hc]; exact Ev.now _
theorem c0Y (l : List Int) (hb : Bytes l) (hm : l.length < 140737488355328) (big : Bool) : Ev (fun k => S9.f k l big) (a13 l big) := by
 unfold S9.f a13
 by_cases h : l.length < 16
 ·rw [if_pos h]; exact Ev.congr (fun k => if_pos (by omega)) (Ev.now _)
 ·rw [if_neg h]; refine Ev.congr (fun k => if_neg (by omega)) ?_; refine Ev.bind (a8m l hb 8 big (by omega) (by omega)) ?_; have hr := a8N l hb 8 4 big (by omega) (by omega); generalize a3o l 8 4 big = t at hr ⊢; have e1 : wrap64 t = t := w64 (by omega) (by omega); have e2 : wrap64 (16 + t) = 16 + t := w64 (by omega) (by omega); rw [e1, e2]
  by_cases h2 : t > 131072
  ·rw [if_pos h2]; exact Ev.congr (fun k => if_pos h2) (Ev.now _)
  ·rw [if_neg h2]; refine Ev.congr (fun k => if_neg h2) ?_
   by_cases h3 : (l.length : Int) < 16 + t
   ·rw [if_pos h3]; exact Ev.congr (fun k => if_pos h3) (Ev.now _)
   ·rw [if_neg h3]; refine Ev.congr (fun k => if_neg h3) ?_; refine Ev.bind (a8m l hb 0 big (by omega) (by omega)) ?_; refine Ev.bind (a8m l hb 4 big (by omega) (by omega)) ?_; refine Ev.bind (a8m l hb 12 big (by omega) (by omega)) ?_; have hd : (l.take ((16 + t).toNat)).drop 16 = (l.drop 16).take t.toNat := by
     rw [List.drop_take]
     congr 1
     omega
    rw [hd]; have hle : ((l.drop 16).take t.toNat).length ≤ l.length := by rw [List.length_take, List.length_drop]; omega
    refine Ev.const ?_; rw [if_pos (by omega), if_pos (by omega), if_pos (by simp only [List.length_nil]; omega), List.nil_append]
def a4N (l : List Int) : Bool × Bool × Int × Int × Bool :=
 if a3o l 0 4 false = 2712847316 then (false, false, 0, 0, true) else if a3o l 0 4 false = 2712812621 then (false, true, 0, 0, true) else
 if a3o l 0 4 true = 2712847316 then (true, false, 0, 0, true) else if a3o l 0 4 true = 2712812621 then (true, true, 0, 0, true) else (false, false, 0, 0, false)
theorem c6o (l : List Int) (hb : Bytes l) (h : 4 ≤ l.length) : Ev (fun k => a0E.f k l) (a4N l) := by
 unfold a0E.f a4N
 refine Ev.bind (a4B l hb 0 4 false (by omega) (by omega) (by omega)) ?_
 split
 ·exact Ev.now _
 ·split
  ·exact Ev.now _
  ·refine Ev.bind (a4B l hb 0 4 true (by omega) (by omega) (by omega)) ?_
   split
   ·exact Ev.now _
   ·split
    ·exact Ev.now _
    ·exact Ev.now _
def a3G (l : List Int) : Bool × Bool × Int × Int × Int :=
 if l.length < 4 then (false, false, 0, 0, 2) else
 if (a4N l).2.2.2.2 = false then (false, false, 0, 0, 3) else
 if l.length < 24 then (false, false, 0, 0, 2) else
 if a3o (l.drop 4) 0 2 (a4N l).1 ≠ 2 then (false, false, 0, 0, 3) else
 ((a4N l).1, (a4N l).2.1, a3o (l.drop 4) 12 4 (a4N l).1, a3o (l.drop 4) 16 4 (a4N l).1, 0)
theorem d1U (l : List Int) (hb : Bytes l) : Ev (fun k => a6l.f k l) (a3G l) := by
 unfold a6l.f a3G
 by_cases h : l.length < 4
 ·rw [if_pos h]; exact Ev.congr (fun k => if_pos (by omega)) (Ev.now _)
 ·rw [if_neg h]; refine Ev.congr (fun k => if_neg (by omega)) ?_; refine Ev.bind (c6o l hb (by omega)) ?_; generalize a4N l = o
  by_cases h1 : o.2.2.2.2 = false
  ·rw [if_pos h1]; exact Ev.congr (fun k => if_pos h1) (Ev.now _)
  ·rw [if_neg h1]; refine Ev.congr (fun k => if_neg h1) ?_
   by_cases h2 : l.length < 24
   ·rw [if_pos h2]; exact Ev.congr (fun k => if_pos (by omega)) (Ev.now _)
   ·rw [if_neg h2]; refine Ev.congr (fun k => if_neg (by omega)) ?_; have hd : (l.drop 4).length = l.length - 4 := List.length_drop ..; have hb4 : Bytes (l.drop 4) := hb.drop _; refine Ev.bind (a4B (l.drop 4) hb4 0 2 o.1 (by omega) (by omega) (by omega)) ?_
    by_cases h3 : a3o (l.drop 4) 0 2 o.1 ≠ 2
    ·rw [if_pos h3]; exact Ev.congr (fun k => if_pos h3) (Ev.now _)
    ·rw [if_neg h3]; refine Ev.congr (fun k => if_neg h3) ?_; refine Ev.bind (a4B (l.drop 4) hb4 2 2 o.1 (by omega) (by omega) (by omega)) ?_; refine Ev.bind (a4B (l.drop 4) hb4 4 4 o.1 (by omega) (by omega) (by omega)) ?_; refine Ev.bind (a4B (l.drop 4) hb4 8 4 o.1 (by omega) (by omega) (by omega)) ?_; refine Ev.bind (a4B (l.drop 4) hb4 12 4 o.1 (by omega) (by omega) (by omega)) ?_; refine Ev.bind (a4B (l.drop 4) hb4 16 4 o.1 (by omega) (by omega) (by omega)) ?_; exact Ev.now _
theorem b0u (l : List Int) (hb : Bytes l) (big : Bool) (h : (a13 l big).2.2.2.2.2 = 0) : 16 ≤ (a13 l big).2.2.2.2.1 ∧ (a13 l big).2.2.2.2.1 ≤ l.length := by
 unfold a13 at h ⊢
 by_cases h1 : l.length < 16
 ·rw [if_pos h1] at h; exact absurd h (by decide)
 ·rw [if_neg h1] at h ⊢
  by_cases h2 : a3o l 8 4 big > 131072
  ·rw [if_pos h2] at h; exact absurd h (by decide)
  ·rw [if_neg h2] at h ⊢
   by_cases h3 : (l.length : Int) < 16 + a3o l 8 4 big
   ·rw [if_pos h3] at h; exact absurd h (by decide)
   ·rw [if_neg h3] at h ⊢; have := a8N l hb 8 4 big (by omega) (by omega); exact ⟨by show 16 ≤ 16 + a3o l 8 4 big; omega, by show 16 + a3o l 8 4 big ≤ _; omega⟩
def b0W (big : Bool) : Nat → List Int → List S51 → Nat → List S51 × Int × Int
 | 0, _, acc, _ => (acc, 0, 0)
 | f + 1, l, acc, i =>
  if i < l.length then
   if (a13 (l.drop i) big).2.2.2.2.2 = 0 then
    b0W big f l (acc ++ [⟨(a13 (l.drop i) big).1, (a13 (l.drop i) big).2.1, (a13 (l.drop i) big).2.2.1, (a13 (l.drop i) big).2.2.2.1⟩]) (i + (a13 (l.drop i) big).2.2.2.2.1.toNat)
   else (acc, (i : Int), (a13 (l.drop i) big).2.2.2.2.2)
  else (acc, 0, 0)
theorem d1V (l : List Int) (hb : Bytes l) (hm : l.length ≤ 3518437208000) (big b2 : Bool) (s k0 : Int) (f : Nat) : ∀ (i : Nat) (acc : List S51), l.length < i + f → i ≤ l.length → acc.length ≤ i →
  Ev (fun k => pcap_Read.l0 k l acc i big b2 s k0) (big, b2, s, k0, b0W big f l acc i) := by
 induction f with
 | zero =>
  intro i acc h1 h2 h3
  omega
 | succ f ih =>
  intro i acc h1 h2 h3; unfold b0W
  by_cases h : i < l.length
  ·rw [if_pos h]; refine Ev.step (fun k => by rw [pcap_Read.l0, if_pos (by omega), if_pos (by omega), if_pos (by omega), Int.toNat_natCast]) ?_; have hbd : Bytes (l.drop i) := hb.drop i; have hld : (l.drop i).length = l.length - i := List.length_drop ..; refine Ev.bind (d1T (l.drop i) hbd (by omega) big) ?_; have hsz := b0u (l.drop i) hbd big; generalize a13 (l.drop i) big = r at hsz ⊢
   by_cases he : r.2.2.2.2.2 = 0
   ·rw [if_pos he]; have := hsz he; refine Ev.congr (fun k => if_pos he) ?_; refine Ev.congr (fun k => if_pos (by omega)) ?_; have hw : wrap64 ((i : Int) + r.2.2.2.2.1) = ((i + r.2.2.2.2.1.toNat : Nat) : Int) := by rw [w64 (by omega) (by omega)]; omega
    rw [hw]; exact ih _ _ (by omega) (by omega) (by rw [List.length_append]; simp only [List.length_cons, List.length_nil]; omega)
   ·rw [if_neg he]; exact Ev.congr (fun k => if_neg he) (Ev.now _)
  ·rw [if_neg h]; refine Ev.step (fun k => by rw [pcap_Read.l0, if_neg (by omega)]) ?_; exact Ev.now _
def a6w (l : List Int) : Bool × Bool × Int × Int × List S51 × Int × Int :=
 if (a3G l).2.2.2.2 = 0 then ((a3G l).1, (a3G l).2.1, (a3G l).2.2.1, (a3G l).2.2.2.1, b0W (a3G l).1 (l.length + 1) l [] 24)
 else (false, false, 0, 0, [], 0, (a3G l).2.2.2.2)
theorem b3D (l : List Int) (h : (a3G l).2.2.2.2 = 0) : 24 ≤ l.length := by
 unfold a3G at h
 by_cases h1 : l.length < 4
 ·rw [if_pos h1] at h; exact absurd h (by decide)
 ·rw [if_neg h1] at h
  by_cases h2 : (a4N l).2.2.2.2 = false
  ·rw [if_pos h2] at h; exact absurd h (by decide)
  ·rw [if_neg h2] at h
   by_cases h3 : l.length < 24
   ·rw [if_pos h3] at h; exact absurd h (by decide)
   ·omega
theorem c4a (l : List Int) (hb : Bytes l) (hm : l.length ≤ 3518437208000) : Ev (fun k => pcap_Read.f k l) (a6w l) := by
 unfold pcap_Read.f a6w
 refine Ev.bind (d1U l hb) ?_
 by_cases h : (a3G l).2.2.2.2 = 0
 ·rw [if_pos h]; refine Ev.congr (fun k => if_pos h) ?_; have := b3D l h; exact d1V l hb hm _ _ _ _ (l.length + 1) 24 [] (by omega) (by omega) (by simp)
 ·rw [if_neg h]; exact Ev.congr (fun k => if_neg h) (Ev.now _)
theorem d1W (n : Int) (h0 : 0 ≤ n) (h1 : n < 18446744073709551616) (s : Nat) (hs : s ≤ 8) (big : Bool) (d : Nat) : ∀ (i : Nat), s - i = d → i ≤ s →
  Ev (fun k => Q5.l0 k (n / 256 ^ i) (s : Int) big (a2k n i big) (i : Int)) (a2k n s big) := by
 induction d with
 | zero =>
  intro i hd hi; obtain rfl : i = s := by omega
  refine Ev.step (f := fun _ => some (a2k n i big)) (fun k => ?_) (Ev.now _); rw [Q5.l0, if_neg (by omega)]
 | succ d ih =>
  intro i hd hi; refine Ev.step (f := fun k => Q5.l0 k (n / 256 ^ (i + 1)) (s : Int) big (a2k n (i + 1) big) ((i + 1 : Nat) : Int)) (fun k => ?_) (ih (i + 1) (by omega) (by omega)); have hq0 : 0 ≤ n / 256 ^ i := Int.ediv_nonneg h0 (Int.le_of_lt (Int.pow_pos (by decide))); have hq1 : n / 256 ^ i ≤ n := Int.ediv_le_self _ h0; have hdv : IntKind.u64.wrap (Int.tdiv (n / 256 ^ i) 256) = n / 256 ^ (i + 1) := by
   rw [Int.tdiv_eq_ediv_of_nonneg hq0, Int.ediv_ediv_of_nonneg (Int.le_of_lt (Int.pow_pos (by decide))), ← Int.pow_succ, b6b]
   ·exact Int.ediv_nonneg h0 (Int.le_of_lt (Int.pow_pos (by decide)))
   ·exact Int.lt_of_le_of_lt (Int.ediv_le_self _ h0) h1
  have hmd : Int.tmod (n / 256 ^ i) 256 % 256 = n / 256 ^ i % 256 := by
   rw [Int.tmod_eq_emod_of_nonneg hq0]
   omega
  have hl : (a2k n i big).length = i := a2g _ _ _; rw [Q5.l0, if_pos (by omega), hdv, hmd, w64 (by omega) (by omega)]
  cases big
  ·simp only [Bool.false_eq_true, if_false]
   rw [if_pos (by omega)]; have : a2k n i false ++ [n / 256 ^ i % 256] = a2k n (i + 1) false := by
    unfold a2k
    simp only [Bool.false_eq_true, if_false]
    rw [c3M]
   rw [this]
   rfl
  ·simp only [if_true, Option.bind_some]
   rw [if_pos (by simp [hl]; omega)]; have : [n / 256 ^ i % 256] ++ a2k n i true = a2k n (i + 1) true := by
    unfold a2k
    simp only [if_true]
    rw [c3M, List.reverse_append]
    rfl
   rw [this]
   rfl
theorem b5J (n : Int) (s : Nat) (big : Bool) (h0 : 0 ≤ n) (h1 : n < 18446744073709551616) (hs : s ≤ 8) : Ev (fun k => Q5.f k n (s : Int) big) (a2k n s big) := by
 have := d1W n h0 h1 s hs big s 0 (by omega) (by omega)
 have e : a2k n 0 big = [] := by unfold a2k; cases big <;> rfl
 rw [e] at this
 simp only [Int.pow_zero, Int.ediv_one] at this
 exact this
def b7T (l : List Int) (s : Nat) (big : Bool) : List Int := (l.map fun n => a2k n s big).flatten
theorem b0v (l : List Int) (s : Nat) (big : Bool) : (b7T l s big).length = l.length * s := by
 unfold b7T
 induction l with
 | nil => simp
 | cons a l ih => rw [List.map_cons, List.flatten_cons, List.length_append, a2g, ih, List.length_cons, Nat.add_mul]; omega
theorem b5K (l : List Int) (n : Int) (big : Bool) (h0 : 0 ≤ n) (h1 : n < 4294967296) (hl : l.length < 140737488355324) : Ev (fun k => a0B.f k l n big) (l ++ a2k n 4 big) := by
 unfold a0B.f
 rw [b6b h0 (by omega)]
 refine Ev.bind (b5J n 4 big h0 (by omega) (by omega)) ?_
 exact Ev.congr (fun k => if_pos (by rw [a2g]; omega)) (Ev.now _)
def a4T (nano : Bool) : Int := if nano = true then 2712812621 else 2712847316
def b4t (big nano : Bool) (snap link : Int) : List Int := b7T [a4T nano] 4 big ++ (b7T [2, 4] 2 big ++ b7T [0, 0, snap, link] 4 big)
theorem e5q : (256 : Int) ^ 4 = 4294967296 := by decide
theorem c0Z (big nano : Bool) (s k0 : Int) : (b4t big nano s k0).length = 24 := by
 unfold b4t
 rw [List.length_append, List.length_append, b0v, b0v, b0v]
 rfl
theorem b6f (nano : Bool) : 0 ≤ a4T nano ∧ a4T nano < 4294967296 := by cases nano <;> decide
theorem e5r (big : Bool) : ([0, 0, 0, 0, 0, 0, 0, 0] : List Int) = a2k 0 4 big ++ a2k 0 4 big := by cases big <;> rfl
theorem c6p (big nano : Bool) (s k0 : Int) (hs : 0 ≤ s ∧ s < 4294967296) (hk : 0 ≤ k0 ∧ k0 < 4294967296) : Ev (fun k => umpireref09_Header.f k big nano s k0) (b4t big nano s k0) := by
 have hj : Ev (fun k => umpireref09_Header.j0 k (a4T nano) big nano s k0) (b4t big nano s k0) := by
  have hmk := b6f nano; refine Ev.step (fun k => by rw [umpireref09_Header.j0]) ?_; refine Ev.bind (b5K [] (a4T nano) big hmk.1 hmk.2 (by simp)) ?_; refine Ev.bind (b5J 2 2 big (by omega) (by omega) (by omega)) ?_; refine Ev.congr (fun k => if_pos (by rw [List.length_append, a2g, a2g]; simp)) ?_; refine Ev.congr (fun k => Option.bind_some ..) ?_; refine Ev.bind (b5J 4 2 big (by omega) (by omega) (by omega)) ?_; refine Ev.congr (fun k => if_pos (by rw [List.length_append, List.length_append, a2g, a2g, a2g]; simp)) ?_; refine Ev.congr (fun k => Option.bind_some ..) ?_; refine Ev.congr (fun k => Option.bind_some ..) ?_; refine Ev.congr (fun k => if_pos (by simp only [List.length_append, a2g, List.length_cons, List.length_nil]; omega)) ?_; refine Ev.bind (b5K _ s big hs.1 hs.2 (by simp only [List.length_append, a2g, List.length_cons, List.length_nil]; omega)) ?_; refine Ev.bind (b5K _ k0 big hk.1 hk.2 (by simp only [List.length_append, a2g, List.length_cons, List.length_nil]; omega)) ?_; have he : [] ++ a2k (a4T nano) 4 big ++ a2k 2 2 big ++ a2k 4 2 big ++ [0, 0, 0, 0, 0, 0, 0, 0] ++ a2k s 4 big ++ a2k k0 4 big = b4t big nano s k0 := by
   rw [e5r big]; unfold b4t b7T
   simp
  rw [he]; exact Ev.now _
 unfold umpireref09_Header.f
 cases nano with
 | false => exact Ev.congr (fun k => if_neg (by decide)) hj
 | true => exact Ev.congr (fun k => if_pos rfl) hj
theorem d1X (n : Int) (big : Bool) (h0 : 0 ≤ n) (h1 : n < 4294967296) : a9K (a2k n 4 big) big = n := d1F n 4 big h0 (by rw [e5q]; exact h1)
theorem d3T (big nano : Bool) (s k0 : Int) : b4t big nano s k0 = a2k (a4T nano) 4 big ++ (a2k 2 2 big ++ (a2k 4 2 big ++ (a2k 0 4 big ++ (a2k 0 4 big ++ (a2k s 4 big ++ a2k k0 4 big))))) := by
 unfold b4t b7T
 simp
theorem d1Y (l : List Int) (hb : Bytes l) (a n : Nat) (big : Bool) (h : a + n ≤ l.length) : a2k (a3o l a n big) n big = (l.take (a + n)).drop a := by
 have hl := b6M l a n h
 have := b9Q ((l.take (a + n)).drop a) big ((hb.take _).drop _)
 rw [hl] at this
 exact this
theorem d1Z (l : List Int) (d a n : Nat) (big : Bool) : a3o (l.drop d) a n big = a3o l (d + a) n big := by
 unfold a3o
 rw [List.take_drop, List.drop_drop, Nat.add_assoc]
theorem d3U (l : List Int) (hb : Bytes l) (h : 4 ≤ l.length) (b n : Bool) : (a3o l 0 4 b = a4T n) ↔ l.take 4 = a2k (a4T n) 4 b := by
 have h1 := d1Y l hb 0 4 b (by omega)
 rw [Nat.zero_add, List.drop_zero] at h1
 constructor
 ·intro e; rw [← h1, e]
 ·intro e; have hr := b6f n; have : a3o l 0 4 b = a9K (l.take 4) b := by unfold a3o; rw [Nat.zero_add, List.drop_zero]
  rw [this, e]; exact d1X _ _ hr.1 hr.2
theorem d8N : a4T true = 2712812621 := rfl
theorem d8O : a4T false = 2712847316 := rfl
theorem c4b (l : List Int) (hb : Bytes l) (h : 4 ≤ l.length) : a4N l =
  if l.take 4 = a2k (a4T false) 4 false then (false, false, 0, 0, true) else if l.take 4 = a2k (a4T true) 4 false then (false, true, 0, 0, true) else
  if l.take 4 = a2k (a4T false) 4 true then (true, false, 0, 0, true) else if l.take 4 = a2k (a4T true) 4 true then (true, true, 0, 0, true) else (false, false, 0, 0, false) := by
 unfold a4N
 rw [← d8O, ← d8N]
 simp only [d3U l hb h]
def c4c (l : List Int) (b n : Bool) : Bool × Bool × Int × Int × Int :=
 if l.length < 24 then (false, false, 0, 0, 2) else if a3o l 4 2 b = 2 then (b, n, a3o l 16 4 b, a3o l 20 4 b, 0) else (false, false, 0, 0, 3)
theorem d14 (l : List Int) (hb : Bytes l) (hm : l.length ≤ 4611686018427387904) (b n : Bool) : Ev (fun k => G5.tail k l b n) (c4c l b n) := by
 unfold G5.tail c4c
 by_cases h : l.length < 24
 ·rw [if_pos h]; exact Ev.congr (fun k => if_pos (by omega)) (Ev.now _)
 ·rw [if_neg h]; refine Ev.congr (fun k => if_neg (by omega)) ?_; have hg := b9X ((l.take 6).drop 4) ((hb.take _).drop _) (by rw [List.length_drop, List.length_take]; omega) b; refine Ev.bind hg ?_
  show Ev _ (if a3o l 4 2 b = 2 then _ else _)
  have he : a9K ((l.take 6).drop 4) b = a3o l 4 2 b := rfl; rw [he]
  by_cases h2 : a3o l 4 2 b = 2
  ·rw [if_pos h2]; refine Ev.congr (fun k => if_pos h2) ?_; refine Ev.bind (a8m l hb 16 b hm (by omega)) ?_; refine Ev.bind (a8m l hb 20 b hm (by omega)) ?_; exact Ev.now _
  ·rw [if_neg h2]; exact Ev.congr (fun k => if_neg h2) (Ev.now _)
def d3V (l : List Int) : Nat → Nat → Bool × Bool × Int × Int × Int
 | 0, _ => (false, false, 0, 0, 3)
 | d + 1, j => if l.take 4 = a2k (a4T ((j : Int) / 2 == 1)) 4 ((j : Int) % 2 == 1) then c4c l ((j : Int) % 2 == 1) ((j : Int) / 2 == 1) else d3V l d (j + 1)
theorem d3W (l : List Int) (hb : Bytes l) (hm : l.length ≤ 4611686018427387904) (d : Nat) : ∀ j : Nat, Ev (fun k => G5.c4d k l d j) (d3V l d j) := by
 induction d with
 | zero => intro j; exact Ev.now _
 | succ d ih =>
  intro j; unfold G5.c4d d3V; generalize ((j : Int) / 2 == 1) = n; generalize ((j : Int) % 2 == 1) = b; refine Ev.bind (c6p b n 0 0 (by decide) (by decide)) ?_; refine Ev.congr (fun k => if_pos (by rw [c0Z]; decide)) ?_; have ht : (b4t b n 0 0).take 4 = a2k (a4T n) 4 b := by rw [d3T, List.take_left' (a2g ..)]
  rw [ht]
  by_cases h : l.take 4 = a2k (a4T n) 4 b
  ·rw [if_pos h]; exact Ev.congr (fun k => if_pos (by rw [h])) (d14 l hb hm b n)
  ·rw [if_neg h]; exact Ev.congr (fun k => if_neg (fun e => h (b9O (c56 _ _ _) (hb.take 4) e).symm)) (ih _)
theorem c02 (l : List Int) (hb : Bytes l) (hm : l.length ≤ 4611686018427387904) : Ev (fun k => G5.f k l) (a3G l) := by
 unfold G5.f a3G
 by_cases h : l.length < 4
 ·rw [if_pos h]; exact Ev.congr (fun k => if_pos (by omega)) (Ev.now _)
 ·rw [if_neg h]; refine Ev.congr (fun k => if_neg (by omega)) ?_; have hs := d3W l hb hm 4 0
  suffices he : d3V l 4 0 = (if (a4N l).2.2.2.2 = false then (false, false, 0, 0, 3) else if l.length < 24 then (false, false, 0, 0, 2) else if a3o (l.drop 4) 0 2 (a4N l).1 ≠ 2 then (false, false, 0, 0, 3) else ((a4N l).1, (a4N l).2.1, a3o (l.drop 4) 12 4 (a4N l).1, a3o (l.drop 4) 16 4 (a4N l).1, 0)) by
   rw [← he]; exact hs
  rw [c4b l hb (by omega)]
  simp only [d1Z]
  simp only [d3V]
  have e0 : ((((0 : Nat) : Int)) % 2 == 1) = false := by decide
  have e0' : ((((0 : Nat) : Int)) / 2 == 1) = false := by decide
  have e1 : ((((0 + 1 : Nat) : Int)) % 2 == 1) = true := by decide
  have e1' : ((((0 + 1 : Nat) : Int)) / 2 == 1) = false := by decide
  have e2 : ((((0 + 1 + 1 : Nat) : Int)) % 2 == 1) = false := by decide
  have e2' : ((((0 + 1 + 1 : Nat) : Int)) / 2 == 1) = true := by decide
  have e3 : ((((0 + 1 + 1 + 1 : Nat) : Int)) % 2 == 1) = true := by decide
  have e3' : ((((0 + 1 + 1 + 1 : Nat) : Int)) / 2 == 1) = true := by decide
  rw [e0, e0', e1, e1', e2, e2', e3, e3']; have d1 : a2k (a4T false) 4 true ≠ a2k (a4T true) 4 false := by decide
  have hgo : ∀ b n : Bool, c4c l b n = (if (true : Bool) = false then (false, false, 0, 0, 3) else if l.length < 24 then (false, false, 0, 0, 2) else if a3o l (4 + 0) 2 b ≠ 2 then (false, false, 0, 0, 3) else (b, n, a3o l (4 + 12) 4 b, a3o l (4 + 16) 4 b, 0)) := by
   intro b n; unfold c4c; rw [if_neg (show ¬ ((true : Bool) = false) by decide)]
   by_cases q : l.length < 24
   ·rw [if_pos q, if_pos q]
   ·rw [if_neg q, if_neg q]
    by_cases q2 : a3o l 4 2 b = 2
    ·rw [if_pos q2, if_neg (by simpa using q2)]
    ·rw [if_neg q2, if_pos (by simpa using q2)]
  by_cases p1 : l.take 4 = a2k (a4T false) 4 false
  ·rw [if_pos p1, if_pos p1]; exact hgo _ _
  ·rw [if_neg p1, if_neg p1]
   by_cases p2 : l.take 4 = a2k (a4T false) 4 true
   ·rw [if_pos p2, if_neg (fun e => d1 (p2.symm.trans e)), if_pos p2]; exact hgo _ _
   ·rw [if_neg p2]
    by_cases p3 : l.take 4 = a2k (a4T true) 4 false
    ·rw [if_pos p3, if_pos p3]; exact hgo _ _
    ·rw [if_neg p3, if_neg p3, if_neg p2]
     by_cases p4 : l.take 4 = a2k (a4T true) 4 true
     ·rw [if_pos p4, if_pos p4]; exact hgo _ _
     ·rw [if_neg p4, if_neg p4]; rfl
theorem c04 (l : List Int) (hb : Bytes l) (hm : l.length ≤ 3518437208000) (big b2 : Bool) (s k0 : Int) (f : Nat) : ∀ (i : Nat) (acc : List S51), l.length < i + f → i ≤ l.length → acc.length ≤ i →
  Ev (fun k => umpireref09_Read.l0 k l acc i big b2 s k0) (big, b2, s, k0, b0W big f l acc i) := by
 induction f with
 | zero =>
  intro i acc h1 h2 h3
  omega
 | succ f ih =>
  intro i acc h1 h2 h3; unfold b0W
  by_cases h : i < l.length
  ·rw [if_pos h]; refine Ev.step (fun k => by rw [umpireref09_Read.l0, if_pos (by omega), if_pos (by omega), if_pos (by omega), Int.toNat_natCast]) ?_; have hbd : Bytes (l.drop i) := hb.drop i; have hld : (l.drop i).length = l.length - i := List.length_drop ..; refine Ev.bind (c0Y (l.drop i) hbd (by omega) big) ?_; have hsz := b0u (l.drop i) hbd big; generalize a13 (l.drop i) big = r at hsz ⊢
   by_cases he : r.2.2.2.2.2 = 0
   ·rw [if_pos he]; have := hsz he; refine Ev.congr (fun k => if_pos he) ?_; refine Ev.congr (fun k => if_pos (by omega)) ?_; have hw : wrap64 ((i : Int) + r.2.2.2.2.1) = ((i + r.2.2.2.2.1.toNat : Nat) : Int) := by rw [w64 (by omega) (by omega)]; omega
    rw [hw]; exact ih _ _ (by omega) (by omega) (by rw [List.length_append]; simp only [List.length_cons, List.length_nil]; omega)
   ·rw [if_neg he]; exact Ev.congr (fun k => if_neg he) (Ev.now _)
  ·rw [if_neg h]; refine Ev.step (fun k => by rw [umpireref09_Read.l0, if_neg (by omega)]) ?_; exact Ev.now _
theorem c05 (l : List Int) (hb : Bytes l) (hm : l.length ≤ 3518437208000) : Ev (fun k => umpireref09_Read.f k l) (a6w l) := by
 unfold umpireref09_Read.f a6w
 refine Ev.bind (c02 l hb (by omega)) ?_
 by_cases h : (a3G l).2.2.2.2 = 0
 ·rw [if_pos h]; refine Ev.congr (fun k => if_pos h) ?_; have := b3D l h; exact c04 l hb hm _ _ _ _ (l.length + 1) 24 [] (by omega) (by omega) (by simp)
 ·rw [if_neg h]; exact Ev.congr (fun k => if_neg h) (Ev.now _)
theorem c06 (big : Bool) (f : Nat) (l : List Int) (hb : Bytes l) : ∀ (i : Nat) (acc : List S51), i ≤ l.length → acc.length ≤ i → (b0W big f l acc i).1.length ≤ l.length := by
 induction f with
 | zero => intro i acc h1 h2; show acc.length ≤ _; omega
 | succ f ih =>
  intro i acc h1 h2; unfold b0W
  by_cases h : i < l.length
  ·rw [if_pos h]; have hld : (l.drop i).length = l.length - i := List.length_drop ..; have hsz := b0u (l.drop i) (hb.drop i) big
   by_cases he : (a13 (l.drop i) big).2.2.2.2.2 = 0
   ·rw [if_pos he]; have := hsz he; exact ih _ _ (by omega) (by rw [List.length_append]; simp only [List.length_cons, List.length_nil]; omega)
   ·rw [if_neg he]; show acc.length ≤ _; omega
  ·rw [if_neg h]; show acc.length ≤ _; omega
theorem c07 (l : List Int) (hb : Bytes l) : (a6w l).2.2.2.2.1.length ≤ l.length := by
 unfold a6w
 by_cases h : (a3G l).2.2.2.2 = 0
 ·rw [if_pos h]; have := b3D l h; exact c06 _ _ l hb 24 [] (by omega) (by simp)
 ·rw [if_neg h]; exact Nat.zero_le _
abbrev Note := S58
def e5s (x : Note) : Prop := (-9223372036854775808 ≤ x.f0 ∧ x.f0 ≤ 9223372036854775807) ∧ (0 ≤ x.f1 ∧ x.f1 < 4294967296) ∧ Bytes x.f2
def b3E (kind n : Int) (data : List Int) : Bool :=
 if kind = 1 ∨ kind = 2 then n == 0
 else if 0 < data.length then false
 else if kind = 3 ∨ kind = 4 then n == 0
 else if kind = 5 ∨ kind = 7 then true
 else if kind = 6 then decide (n < 256) else false
theorem d15 {kind n : Int} {data : List Int} (h : b3E kind n data = true) : 1 ≤ kind ∧ kind ≤ 7 := by
 unfold b3E at h
 (repeat' split at h) <;> first | omega | cases h
def c08 (kind n : Int) (data : List Int) : List Int :=
 kind :: (if kind ≤ 2 then ((data.length : Int) / 256) :: ((data.length : Int) % 256) :: data else if kind = 6 then [n] else if kind = 5 ∨ kind = 7 then a2k n 4 true else [])
def tot : List Note → Nat
 | [] => 0
 | x :: l => x.f2.length + 5 + tot l
def d3X (l : List Note) : Bool := l.all fun x => b3E x.f0 x.f1 x.f2 && decide (x.f2.length ≤ 65535)
def b5L (l : List Note) : List Int := l.flatMap fun x => c08 x.f0 x.f1 x.f2
def sz (c : Int) : Nat := if c ≤ 2 then 2 else if c ≤ 4 then 0 else if c = 6 then 1 else 4
theorem c8n (c : Int) : sz c ≤ 4 := by unfold sz; (repeat' split) <;> omega
def X7 (b : List Int) : Int × Int × List Int × Int × Int :=
 match b with
 | [] => (0, 0, [], 0, 2)
 | c :: r =>
  if c < 1 ∨ 7 < c then (0, 0, [], 0, 7)
  else if r.length < sz c then (0, 0, [], 0, 2)
  else if 2 < c then (c, a0l (r.take (sz c)), [], 1 + (sz c : Int), 0)
  else if (r.length : Int) < 2 + a0l (r.take 2) then (0, 0, [], 0, 2)
  else (c, 0, (r.drop 2).take (a0l (r.take 2)).toNat, 3 + a0l (r.take 2), 0)
theorem b4u {l : List Int} (h : Bytes l) {n : Nat} (hl : l.length ≤ n) : 0 ≤ a0l l ∧ a0l l < 256 ^ n :=
 ⟨(a6j l h).1, Int.lt_of_lt_of_le (a6j l h).2 (b2j hl)⟩
theorem word_lt {r : List Int} (h : Bytes r) : 0 ≤ a0l (r.take 2) ∧ a0l (r.take 2) < 65536 := by
 have := b4u (h.take 2) (n := 2) (by rw [List.length_take]; omega)
 rw [show (256 : Int) ^ 2 = 65536 by decide] at this
 exact this
theorem c8o {r : List Int} (h : Bytes r) (c : Int) : 0 ≤ a0l (r.take (sz c)) ∧ a0l (r.take (sz c)) < 4294967296 := by
 have := b4u (h.take (sz c)) (n := 4) (by have := c8n c; rw [List.length_take]; omega)
 rw [show (256 : Int) ^ 4 = 4294967296 by decide] at this
 exact this
theorem b7U {b : List Int} {kind n size : Int} {data : List Int} (hb : Bytes b) (h : X7 b = (kind, n, data, size, 0)) :
  b3E kind n data = true ∧ (0 ≤ n ∧ n < 4294967296) ∧ Bytes data ∧ data.length ≤ 65535 ∧ 1 ≤ size ∧ size ≤ b.length ∧ b = c08 kind n data ++ b.drop size.toNat := by
 cases b with
 | nil => simp [X7] at h
 | cons c r =>
  have hr : Bytes r := fun x hx => hb x (List.mem_cons_of_mem _ hx)
  have hc := hb c (List.mem_cons_self ..)
  simp only [X7] at h
  by_cases h1 : c < 1 ∨ 7 < c
  ·simp [h1] at h
  ·rw [if_neg h1] at h
   by_cases h2 : r.length < sz c
   ·simp [h2] at h
   ·rw [if_neg h2] at h
    by_cases h3 : 2 < c
    ·rw [if_pos h3] at h
     simp only [Prod.mk.injEq] at h
     obtain ⟨rfl, rfl, rfl, rfl, _⟩ := h; have hq := c8o hr c; have hd : (c :: r).drop (1 + (sz c : Int)).toNat = r.drop (sz c) := by
      rw [show (1 + (sz c : Int)).toNat = sz c + 1 by omega, List.drop_succ_cons]
     rw [hd]; have hl : (r.take (sz c)).length = sz c := by rw [List.length_take]; omega
     refine ⟨?_, hq, Bytes.nil, by simp, by omega, by rw [List.length_cons]; omega, ?_⟩
     ·unfold b3E; rw [if_neg (by omega), if_neg (by simp)]
      by_cases h4 : c = 3 ∨ c = 4
      ·rw [if_pos h4]; have : sz c = 0 := by unfold sz; rw [if_neg (by omega), if_pos (by omega)]
       rw [this]
       rfl
      ·rw [if_neg h4]
       by_cases h5 : c = 5 ∨ c = 7
       ·rw [if_pos h5]
       ·rw [if_neg h5, if_pos (by omega)]; have h6 : sz c = 1 := by unfold sz; rw [if_neg (by omega), if_neg (by omega), if_pos (by omega)]
        have := b4u (hr.take (sz c)) (n := 1) (by rw [hl]; omega); exact decide_eq_true (by omega)
     ·unfold c08; rw [if_neg (by omega)]; have hput : ∀ s, s = sz c → a2k (a0l (r.take (sz c))) s true = r.take (sz c) := by
       intro s hs; have := b9Q (r.take (sz c)) true (hr.take _); rw [hl] at this; rw [hs]; exact this
      by_cases h6 : c = 6
      ·have hs : sz c = 1 := by unfold sz; rw [if_neg (by omega), if_neg (by omega), if_pos h6]
       rw [if_pos h6]; have := hput 1 hs.symm; rw [hs] at this hl ⊢
       match hr1 : r.take 1, hl with
       | [y], _ =>
        have hy : a0l [y] = y := by simp [a0l]
        rw [hy]
        conv => lhs; rw [← List.take_append_drop 1 r, hr1]
        rfl
      ·rw [if_neg h6]
       by_cases h5 : c = 5 ∨ c = 7
       ·have hs : sz c = 4 := by unfold sz; rw [if_neg (by omega), if_neg (by omega), if_neg (by omega)]
        rw [if_pos h5, hput 4 hs.symm, List.cons_append, List.take_append_drop]
       ·have hs : sz c = 0 := by unfold sz; rw [if_neg (by omega), if_pos (by omega)]
        rw [if_neg h5, hs]
        rfl
    ·rw [if_neg h3] at h
     by_cases h4 : (r.length : Int) < 2 + a0l (r.take 2)
     ·simp [h4] at h
     ·rw [if_neg h4] at h
      simp only [Prod.mk.injEq] at h
      obtain ⟨rfl, rfl, rfl, rfl, _⟩ := h; have hw := word_lt hr; have hs : sz c = 2 := by unfold sz; rw [if_pos (by omega)]
      rw [hs] at h2; have hl2 : (r.take 2).length = 2 := by rw [List.length_take]; omega
      have hld : ((r.drop 2).take (a0l (r.take 2)).toNat).length = (a0l (r.take 2)).toNat := by
       rw [List.length_take, List.length_drop]
       omega
      refine ⟨?_, by omega, (hr.drop 2).take _, by rw [hld]; omega, by omega, by rw [List.length_cons]; omega, ?_⟩
      ·unfold b3E; rw [if_pos (by omega)]
       rfl
      ·unfold c08; rw [if_pos (by omega), hld]
       match hr2 : r.take 2, hl2 with
       | [y, z], _ =>
        have hb2 : Bytes [y, z] := by rw [← hr2]; exact hr.take 2
        have hy := hb2 y (by simp); have hz := hb2 z (by simp); have hv : a0l [y, z] = y * 256 + z := by simp [a0l]
        rw [hr2, hv] at hw; rw [hv]; have e1 : (((y * 256 + z).toNat : Nat) : Int) / 256 = y := by omega
        have e2 : (((y * 256 + z).toNat : Nat) : Int) % 256 = z := by omega
        rw [e1, e2]; have hd : (c :: r).drop (3 + (y * 256 + z)).toNat = (r.drop 2).drop (y * 256 + z).toNat := by
         rw [show (3 + (y * 256 + z)).toNat = (2 + (y * 256 + z).toNat) + 1 by omega, List.drop_succ_cons, List.drop_drop]
        rw [hd]
        conv => lhs; rw [← List.take_append_drop 2 r, hr2]
        simp only [List.cons_append, List.nil_append, List.take_append_drop]
theorem c09 {b : List Int} {kind n size : Int} {data : List Int} (hb : Bytes b) (h : X7 b = (kind, n, data, size, 0)) : (c08 kind n data).length = size.toNat := by
 obtain ⟨_, _, _, _, h1, h2, h3⟩ := b7U hb h
 have := congrArg List.length h3
 rw [List.length_append, List.length_drop] at this
 omega
def a2q : Nat → List Int → Int → List Note × Int × Int
 | 0, _, _ => ([], 0, 0)
 | f + 1, b, at_ =>
  if b = [] then ([], 0, 0)
  else if (X7 b).2.2.2.2 = 0 then (⟨(X7 b).1, (X7 b).2.1, (X7 b).2.2.1⟩ :: (a2q f (b.drop (X7 b).2.2.2.1.toNat) (at_ + (X7 b).2.2.2.1)).1, (a2q f (b.drop (X7 b).2.2.2.1.toNat) (at_ + (X7 b).2.2.2.1)).2)
  else ([], at_, (X7 b).2.2.2.2)
def b2m (b : List Int) : List Note × Int × Int := a2q b.length b 0
theorem d16 (f : Nat) : ∀ (b : List Int) (at_ : Int), Bytes b → b.length ≤ f → 0 ≤ at_ →
  (∀ x ∈ (a2q f b at_).1, e5s x ∧ x.f2.length ≤ 65535) ∧ d3X (a2q f b at_).1 = true ∧ tot (a2q f b at_).1 ≤ 5 * b.length ∧ (a2q f b at_).1.length ≤ b.length ∧
  (((a2q f b at_).2 = (0, 0) ∧ b5L (a2q f b at_).1 = b) ∨
   ((a2q f b at_).2.2 ≠ 0 ∧ at_ ≤ (a2q f b at_).2.1 ∧ (a2q f b at_).2.1 < at_ + b.length ∧ b5L (a2q f b at_).1 = b.take ((a2q f b at_).2.1 - at_).toNat)) := by
 induction f with
 | zero =>
  intro b at_ hb hl h0; have : b = [] := List.eq_nil_of_length_eq_zero (by omega); subst this; exact ⟨(fun x hx => by cases hx), rfl, Nat.zero_le _, Nat.zero_le _, .inl ⟨rfl, rfl⟩⟩
 | succ f ih =>
  intro b at_ hb hl h0; rw [a2q]
  by_cases hn : b = []
  ·subst hn; rw [if_pos rfl]; exact ⟨(fun x hx => by cases hx), rfl, Nat.zero_le _, Nat.zero_le _, .inl ⟨rfl, rfl⟩⟩
  ·rw [if_neg hn]
   by_cases he : (X7 b).2.2.2.2 = 0
   ·rw [if_pos he]; obtain ⟨kind, n, data, size, hx⟩ : ∃ kind n data size, X7 b = (kind, n, data, size, 0) := ⟨_, _, _, _, by rw [← he]⟩; obtain ⟨h1, h2, h3, h4, h5, h6, h7⟩ := b7U hb hx; have h8 := c09 hb hx; have hk := d15 h1; obtain ⟨i1, i2, i3, i4, i5⟩ := ih (b.drop size.toNat) (at_ + size) (hb.drop _) (by rw [List.length_drop]; omega) (by omega); have hdl : (b.drop size.toNat).length = b.length - size.toNat := List.length_drop; rw [hdl] at i3 i4; rw [hx]; generalize hr : a2q f (b.drop size.toNat) (at_ + size) = r at i1 i2 i3 i4 i5 ⊢; have hd5 : data.length + 1 ≤ size.toNat := by
     have h9 := h8; unfold c08 at h9; rw [List.length_cons] at h9
     split at h9
     ·simp at h9
      omega
     ·have hd : data = [] := by
       unfold b3E at h1; rw [if_neg (by omega)] at h1
       by_cases h : 0 < data.length
       ·rw [if_pos h] at h1
        cases h1
       ·exact List.eq_nil_of_length_eq_zero (by omega)
      rw [hd]
      simp
      omega
    refine ⟨?_, ?_, ?_, ?_, ?_⟩
    ·intro x hx
     rcases List.mem_cons.1 hx with rfl | hx
     ·exact ⟨⟨⟨by show -9223372036854775808 ≤ kind; omega, by show kind ≤ 9223372036854775807; omega⟩, h2, h3⟩, h4⟩
     ·exact i1 x hx
    ·simp only [d3X, List.all_cons, Bool.and_eq_true, decide_eq_true_eq]
     refine ⟨⟨h1, h4⟩, ?_⟩; have := i2
     simpa only [d3X, List.all_eq_true, Bool.and_eq_true, decide_eq_true_eq] using this
    ·simp only [tot]
     omega
    ·simp only [List.length_cons]
     omega
    ·have hby : b5L (⟨kind, n, data⟩ :: r.1) = c08 kind n data ++ b5L r.1 := rfl
     simp only [hby]
     rcases i5 with ⟨e1, e2⟩ | ⟨e1, e2, e3, e4⟩
     ·left
      exact ⟨e1, by rw [e2]; exact h7.symm⟩
     ·right
      have e3' := e3; rw [hdl] at e3'; refine ⟨e1, by show at_ ≤ r.2.1; omega, by show r.2.1 < at_ + (b.length : Int); omega, ?_⟩
      show c08 kind n data ++ b5L r.1 = b.take (r.2.1 - at_).toNat
      rw [e4]
      conv => rhs; rw [h7]
      rw [List.take_append, List.take_of_length_le (l := c08 kind n data) (by omega)]
      congr 2
      omega
   ·rw [if_neg he]; refine ⟨(fun x hx => by cases hx), rfl, Nat.zero_le _, Nat.zero_le _, .inr ⟨he, Int.le_refl _, ?_, ?_⟩⟩
    ·have : 0 < b.length := List.length_pos_iff.2 hn
     show at_ < at_ + (b.length : Int)
     omega
    ·simp [b5L]
theorem kinds' {k : Int} (h : ¬ (k < 1 ∨ 7 < k)) : k = 1 ∨ k = 2 ∨ k = 3 ∨ k = 4 ∨ k = 5 ∨ k = 6 ∨ k = 7 := by omega
theorem d8P {c : Int} (h : ¬ (c < 1 ∨ 7 < c)) : (P7 H6 c).f0 = decide (c ≤ 2) := by
 rcases kinds' h with rfl | rfl | rfl | rfl | rfl | rfl | rfl <;> rfl
theorem d8Q {c : Int} (h : ¬ (c < 1 ∨ 7 < c)) : (if c ≤ 2 then (2 : Int) else (P7 H6 c).f1) = sz c := by
 rcases kinds' h with rfl | rfl | rfl | rfl | rfl | rfl | rfl <;> rfl
theorem d3Y (c : Int) (r : List Int) (hb : Bytes (c :: r)) (hl : (c :: r).length < 140737488355328) (h1 : ¬ (c < 1 ∨ 7 < c)) (f1 : Int) :
  Ev (fun k => dump_Next.j1 k (c :: r) 1 (sz c : Int) c 0 (decide (c ≤ 2)) f1) (X7 (c :: r)) := by
 have hr : Bytes r := fun x hx => hb x (List.mem_cons_of_mem _ hx)
 have hs := c8n c
 rw [List.length_cons] at hl
 refine Ev.step (fun k => by rw [dump_Next.j1, b7S _ _ _ (by rw [List.length_cons]; omega) (by omega)]) ?_
 simp only [Option.bind_some, X7]
 rw [if_neg h1]
 by_cases h2 : r.length < sz c
 ·rw [if_pos h2]; have : b6x (c :: r) 1 (sz c) = ([], false) := by
   unfold b6x; rw [if_neg (by rw [List.length_cons]; omega)]
  simp only [this, Bool.false_eq_true, if_false]
  exact Ev.now _
 ·rw [if_neg h2]; have hc : b6x (c :: r) 1 (sz c) = (r.take (sz c), true) := by
   unfold b6x; rw [if_pos (by rw [List.length_cons]; omega)]
   congr 1
  simp only [hc, if_true]
  have hlt : (r.take (sz c)).length = sz c := by rw [List.length_take]; omega
  refine Ev.bind (c39 (r.take (sz c)) (hr.take _) true) ?_; have hg : (if 1 ≤ (r.take (sz c)).length ∧ (r.take (sz c)).length ≤ 8 then (a9K (r.take (sz c)) true, true) else (0, false)).1 = a0l (r.take (sz c)) := by
   by_cases h : 1 ≤ (r.take (sz c)).length ∧ (r.take (sz c)).length ≤ 8
   ·rw [if_pos h]
    rfl
   ·rw [if_neg h]; have : r.take (sz c) = [] := List.eq_nil_of_length_eq_zero (by omega); rw [this]
    rfl
  rw [hg]; have hq := c8o hr c; rw [w64 (x := (1 : Int) + (sz c : Int)) (by omega) (by omega)]
  by_cases h3 : 2 < c
  ·rw [if_pos h3]
   simp only [show decide (c ≤ 2) = false from decide_eq_false (by omega), Bool.false_eq_true, if_false]
   rw [Int.emod_eq_of_lt hq.1 hq.2]; exact Ev.now _
  ·rw [if_neg h3]
   simp only [show decide (c ≤ 2) = true from decide_eq_true (by omega), if_true]
   have hs2 : sz c = 2 := by unfold sz; rw [if_pos (by omega)]
   rw [hs2] at hq hlt ⊢; have hw := word_lt hr; rw [w64 (x := a0l (r.take 2)) (by omega) (by omega)]; rw [b7S _ _ _ (by rw [List.length_cons]; omega) (by omega)]
   simp only [Option.bind_some]
   by_cases h4 : (r.length : Int) < 2 + a0l (r.take 2)
   ·rw [if_pos h4]; have : b6x (c :: r) (1 + ((2 : Nat) : Int)) (a0l (r.take 2)) = ([], false) := by
     unfold b6x; rw [if_neg (by rw [List.length_cons]; omega)]
    simp only [this, Bool.false_eq_true, if_false]
    exact Ev.now _
   ·rw [if_neg h4]; have : b6x (c :: r) (1 + ((2 : Nat) : Int)) (a0l (r.take 2)) = ((r.drop 2).take (a0l (r.take 2)).toNat, true) := by
     unfold b6x; rw [if_pos (by rw [List.length_cons]; omega)]
     rfl
    simp only [this, if_true]
    rw [w64 (by omega) (by omega)]; rw [show (1 : Int) + ((2 : Nat) : Int) + a0l (r.take 2) = 3 + a0l (r.take 2) by omega]; exact Ev.now _
theorem c6q (b : List Int) (hb : Bytes b) (hl : b.length < 140737488355328) : Ev (fun k => dump_Next.f k b) (X7 b) := by
 cases b with
 | nil =>
  unfold dump_Next.f X7; exact Ev.now _
 | cons c r =>
  have hc := hb c (List.mem_cons_self ..); have hrd : rd (c :: r) 0 = c := rfl; unfold dump_Next.f; rw [List.length_cons] at hl
  simp only [if_neg (show ¬ (((c :: r).length : Int) = 0) by rw [List.length_cons]; omega), if_pos (show 0 < ((c :: r).length : Int) by rw [List.length_cons]; omega), hrd, w64 (show -9223372036854775808 ≤ c by omega) (show c ≤ 9223372036854775807 by omega)]
  by_cases h1 : c < 1 ∨ 7 < c
  ·have e : X7 (c :: r) = (0, 0, [], 0, 7) := by
    simp only [X7]
    rw [if_pos h1]
   rw [e]
   by_cases h2 : c < 1
   ·simp only [if_pos h2]
    exact Ev.step (f := fun _ => some (0, 0, [], 0, 7)) (fun k => by rw [dump_Next.j0, if_pos rfl]) (Ev.now _)
   ·simp only [if_neg h2, show decide (c > 7) = true from decide_eq_true (by omega)]
    exact Ev.step (f := fun _ => some (0, 0, [], 0, 7)) (fun k => by rw [dump_Next.j0, if_pos rfl]) (Ev.now _)
  ·simp only [if_neg (show ¬ c < 1 by omega), show decide (c > 7) = false from decide_eq_false (by omega)]
   refine Ev.step (fun k => by rw [dump_Next.j0, if_neg (by decide), if_pos (by omega), if_pos (by omega), d8P h1]) ?_; have hj := d3Y c r hb (by rw [List.length_cons]; omega) h1 (P7 H6 c).f1
   by_cases h2 : c ≤ 2
   ·simp only [h2, decide_true, if_true]
    have hs2 : sz c = 2 := by unfold sz; rw [if_pos h2]
    rw [hs2] at hj
    simp only [h2, decide_true] at hj
    exact hj
   ·simp only [h2, decide_false, Bool.false_eq_true, if_false]
    have hf := d8Q h1; rw [if_neg h2] at hf
    simp only [h2, decide_false, ← hf] at hj
    exact hj
theorem d3Z (c : Int) (r : List Int) (hb : Bytes (c :: r)) (hl : (c :: r).length < 140737488355328) (h1 : ¬ (c < 1 ∨ 7 < c)) (h2 : ¬ r.length < sz c) : ∀ (d i : Nat), sz c - i = d → i ≤ sz c →
  Ev (fun k => umpireref10_Next.l0 k (c :: r) c (sz c : Int) (a0l (r.take i)) (i : Int) c 0) (X7 (c :: r)) := by
 have hr : Bytes r := fun x hx => hb x (List.mem_cons_of_mem _ hx)
 have hs := c8n c
 rw [List.length_cons] at hl
 intro d
 induction d with
 | zero =>
  intro i hd hi; have e : i = sz c := by omega
  subst e; refine Ev.step (f := fun _ => some (X7 (c :: r))) (fun k => ?_) (Ev.now _); rw [umpireref10_Next.l0, if_neg (by omega)]
  simp only [X7]
  rw [if_neg h1, if_neg h2]
  by_cases h3 : 2 < c
  ·rw [if_pos h3, if_pos h3, w64 (by omega) (by omega)]
  ·rw [if_neg h3, if_neg h3]; have hs2 : sz c = 2 := by unfold sz; rw [if_pos (by omega)]
   rw [hs2]; have hw := word_lt hr; rw [w64 (x := a0l (r.take 2)) (by omega) (by omega), w64 (x := 3 + a0l (r.take 2)) (by omega) (by omega)]
   by_cases h4 : (r.length : Int) < 2 + a0l (r.take 2)
   ·rw [if_pos h4, if_pos (by rw [List.length_cons]; omega)]
   ·rw [if_neg h4, if_neg (by rw [List.length_cons]; omega), if_pos (by omega), if_pos (by rw [List.length_cons]; omega)]; have hd : ((c :: r).take (3 + a0l (r.take 2)).toNat).drop 3 = (r.drop 2).take (a0l (r.take 2)).toNat := by
     rw [List.drop_take, show (3 + a0l (r.take 2)).toNat - 3 = (a0l (r.take 2)).toNat by omega]
     rfl
    rw [hd, if_pos (by simp; omega)]
    rfl
 | succ d ih =>
  intro i hd hi; have hlt : i < r.length := by omega
  refine Ev.step (f := fun k => umpireref10_Next.l0 k (c :: r) c (sz c : Int) (a0l (r.take (i + 1))) ((i + 1 : Nat) : Int) c 0) (fun k => ?_) (ih (i + 1) (by omega) (by omega)); rw [umpireref10_Next.l0, if_pos (by omega), w64 (x := (1 : Int) + (i : Int)) (by omega) (by omega), if_pos (by omega), if_pos (by rw [List.length_cons]; omega), w64 (x := (i : Int) + 1) (by omega) (by omega)]; have hrd : rd (c :: r) (1 + (i : Int)) = r[i] := by
   rw [show (1 : Int) + (i : Int) = ((i + 1 : Nat) : Int) by omega, a2p (i + 1) (by rw [List.length_cons]; omega)]
   rfl
  have hb1 := hr.get i hlt; have h3 := b4u (hr.take i) (n := 3) (by rw [List.length_take]; omega); rw [show (256 : Int) ^ 3 = 16777216 by decide] at h3; rw [hrd, List.take_succ_eq_append_getElem hlt, a5i]
  congr 1
  omega
theorem c4e {c : Int} (h1 : ¬ (c < 1 ∨ 7 < c)) : rd ([0, 2, 2, 0, 0, 4, 1, 4] : List Int) c = sz c := by
 rcases kinds' h1 with rfl | rfl | rfl | rfl | rfl | rfl | rfl <;> rfl
theorem c1c (b : List Int) (hb : Bytes b) (hl : b.length < 140737488355328) : Ev (fun k => umpireref10_Next.f k b) (X7 b) := by
 cases b with
 | nil =>
  unfold umpireref10_Next.f X7; exact Ev.now _
 | cons c r =>
  have hc := hb c (List.mem_cons_self ..); have hrd : rd (c :: r) 0 = c := rfl; unfold umpireref10_Next.f; have hl2 := hl; rw [List.length_cons] at hl2
  simp only [if_neg (show ¬ (((c :: r).length : Int) = 0) by rw [List.length_cons]; omega), if_pos (show 0 < ((c :: r).length : Int) by rw [List.length_cons]; omega), hrd, w64 (show -9223372036854775808 ≤ c by omega) (show c ≤ 9223372036854775807 by omega)]
  by_cases h1 : c < 1 ∨ 7 < c
  ·have e : X7 (c :: r) = (0, 0, [], 0, 7) := by
    simp only [X7]
    rw [if_pos h1]
   rw [e]
   by_cases h2 : c < 1
   ·simp only [if_pos h2]
    exact Ev.step (f := fun _ => some (0, 0, [], 0, 7)) (fun k => by rw [umpireref10_Next.j0, if_pos rfl]) (Ev.now _)
   ·simp only [if_neg h2, show decide (c > 7) = true from decide_eq_true (by omega)]
    exact Ev.step (f := fun _ => some (0, 0, [], 0, 7)) (fun k => by rw [umpireref10_Next.j0, if_pos rfl]) (Ev.now _)
  ·simp only [if_neg (show ¬ c < 1 by omega), show decide (c > 7) = false from decide_eq_false (by omega)]
   have hs := c8n c; refine Ev.step (fun k => by rw [umpireref10_Next.j0, if_neg (by decide), Option.bind_some, if_pos (by omega), if_pos (show c < (([0, 2, 2, 0, 0, 4, 1, 4] : List Int).length : Int) from (by show c < 8; omega)), c4e h1, w64 (by omega) (by omega)]) ?_
   by_cases h2 : r.length < sz c
   ·have e : X7 (c :: r) = (0, 0, [], 0, 2) := by
     simp only [X7]
     rw [if_neg h1, if_pos h2]
    rw [e]; refine Ev.congr (fun k => if_pos (by rw [List.length_cons]; omega)) ?_; exact Ev.now _
   ·refine Ev.congr (fun k => if_neg (by rw [List.length_cons]; omega)) ?_; exact d3Z c r hb hl h1 h2 _ 0 rfl (by omega)
theorem b7V {b : List Int} (hb : Bytes b) (h : (X7 b).2.2.2.2 = 0) : 1 ≤ (X7 b).2.2.2.1 ∧ (X7 b).2.2.2.1 ≤ b.length := by
 obtain ⟨kind, n, data, size, hx⟩ : ∃ kind n data size, X7 b = (kind, n, data, size, 0) := ⟨_, _, _, _, by rw [← h]⟩
 obtain ⟨_, _, _, _, h5, h6, _⟩ := b7U hb hx
 rw [hx]
 exact ⟨h5, h6⟩
theorem c4f (b : List Int) (at_ n : Int) (h0 : 0 ≤ at_) (hn : 0 ≤ n) : (b.drop at_.toNat).drop n.toNat = b.drop (at_ + n).toNat := by
 rw [List.drop_drop]
 congr 1
 omega
theorem c6r (b : List Int) (hb : Bytes b) (hl : b.length < 3518437208883) (f : Nat) : ∀ (at_ : Int) (acc : List Note), 0 ≤ at_ → at_ ≤ b.length → (b.length : Int) - at_ ≤ f → (acc.length : Int) ≤ at_ →
  Ev (fun k => a1z.l0 k b acc at_) (acc ++ (a2q f (b.drop at_.toNat) at_).1, (a2q f (b.drop at_.toNat) at_).2) := by
 induction f with
 | zero =>
  intro at_ acc h0 h1 hf ha; refine Ev.step (f := fun _ => some (acc, 0, 0)) (fun k => ?_) ?_
  ·rw [a1z.l0, if_neg (by omega)]
  ·simp only [a2q, List.append_nil]
   exact Ev.now _
 | succ f ih =>
  intro at_ acc h0 h1 hf ha
  by_cases hlt : at_ < (b.length : Int)
  ·have hne : b.drop at_.toNat ≠ [] := by
    intro h; have := congrArg List.length h; rw [List.length_drop, List.length_nil] at this
    omega
   rw [a2q, if_neg hne]; refine Ev.step (fun k => by rw [a1z.l0, if_pos hlt, if_pos h0, if_pos h1]) ?_; refine Ev.bind (c6q (b.drop at_.toNat) (hb.drop _) (by rw [List.length_drop]; omega)) ?_
   by_cases he : (X7 (b.drop at_.toNat)).2.2.2.2 = 0
   ·simp only [if_pos he]
    obtain ⟨p1, p2⟩ := b7V (hb.drop _) he; rw [List.length_drop] at p2; refine Ev.congr (fun k => if_pos (by omega)) ?_; rw [w64 (by omega) (by omega)]; have h := ih (at_ + (X7 (b.drop at_.toNat)).2.2.2.1) (acc ++ [⟨(X7 (b.drop at_.toNat)).1, (X7 (b.drop at_.toNat)).2.1, (X7 (b.drop at_.toNat)).2.2.1⟩]) (by omega) (by omega) (by omega) (by rw [List.length_append, List.length_cons, List.length_nil]; omega); rw [List.append_assoc] at h; rw [c4f b at_ _ h0 (by omega)]; exact h
   ·simp only [if_neg he, List.append_nil]
    exact Ev.now _
  ·have hnil : b.drop at_.toNat = [] := List.drop_of_length_le (by omega); rw [a2q, if_pos hnil]; refine Ev.step (f := fun _ => some (acc, 0, 0)) (fun k => ?_) ?_
   ·rw [a1z.l0, if_neg hlt]
   ·simp only [List.append_nil]
    exact Ev.now _
theorem c6s (b : List Int) (hb : Bytes b) (hl : b.length < 3518437208883) : Ev (fun k => a1z.f k b) (b2m b) := by
 have := c6r b hb hl b.length 0 [] (by omega) (by omega) (by omega) (by simp)
 simpa [a1z.f, b2m] using this
theorem c1d (b : List Int) (hb : Bytes b) (hl : b.length < 3518437208883) (f : Nat) : ∀ (at_ : Int) (acc : List Note), 0 ≤ at_ → at_ ≤ b.length → (b.length : Int) - at_ ≤ f → (acc.length : Int) ≤ at_ →
  Ev (fun k => V7.l0 k b acc at_) (acc ++ (a2q f (b.drop at_.toNat) at_).1, (a2q f (b.drop at_.toNat) at_).2) := by
 induction f with
 | zero =>
  intro at_ acc h0 h1 hf ha; refine Ev.step (f := fun _ => some (acc, 0, 0)) (fun k => ?_) ?_
  ·rw [V7.l0, if_neg (by omega)]
  ·simp only [a2q, List.append_nil]
   exact Ev.now _
 | succ f ih =>
  intro at_ acc h0 h1 hf ha
  by_cases hlt : at_ < (b.length : Int)
  ·have hne : b.drop at_.toNat ≠ [] := by
    intro h; have := congrArg List.length h; rw [List.length_drop, List.length_nil] at this
    omega
   rw [a2q, if_neg hne]; refine Ev.step (fun k => by rw [V7.l0, if_pos hlt, if_pos h0, if_pos h1]) ?_; refine Ev.bind (c1c (b.drop at_.toNat) (hb.drop _) (by rw [List.length_drop]; omega)) ?_
   by_cases he : (X7 (b.drop at_.toNat)).2.2.2.2 = 0
   ·simp only [if_pos he]
    obtain ⟨p1, p2⟩ := b7V (hb.drop _) he; rw [List.length_drop] at p2; refine Ev.congr (fun k => if_pos (by omega)) ?_; rw [w64 (by omega) (by omega)]; have h := ih (at_ + (X7 (b.drop at_.toNat)).2.2.2.1) (acc ++ [⟨(X7 (b.drop at_.toNat)).1, (X7 (b.drop at_.toNat)).2.1, (X7 (b.drop at_.toNat)).2.2.1⟩]) (by omega) (by omega) (by omega) (by rw [List.length_append, List.length_cons, List.length_nil]; omega); rw [List.append_assoc] at h; rw [c4f b at_ _ h0 (by omega)]; exact h
   ·simp only [if_neg he, List.append_nil]
    exact Ev.now _
  ·have hnil : b.drop at_.toNat = [] := List.drop_of_length_le (by omega); rw [a2q, if_pos hnil]; refine Ev.step (f := fun _ => some (acc, 0, 0)) (fun k => ?_) ?_
   ·rw [V7.l0, if_neg hlt]
   ·simp only [List.append_nil]
    exact Ev.now _
theorem c1e (b : List Int) (hb : Bytes b) (hl : b.length < 3518437208883) : Ev (fun k => V7.f k b) (b2m b) := by
 have := c1d b hb hl b.length 0 [] (by omega) (by omega) (by omega) (by simp)
 simpa [V7.f, b2m] using this
abbrev Item := S42
def a6W (out : List Item) (dir : Int) (b : List Int) : List Item := if (b0V b).2.2 = 0 then out ++ [⟨dir, (b0V b).1, (b0V b).2.1⟩] else out
theorem b9Y (out : List Item) (dir : Int) (b : List Int) (hb : Bytes b) (hl : b.length < 140737488355328) (ho : out.length < 3518437208883) : Ev (fun k => a1q.f k out dir b) (a6W out dir b) := by
 unfold a1q.f a6W
 refine Ev.bind (d1G b hb hl) ?_
 by_cases c : (b0V b).2.2 = 0
 ·simp only [c, if_true, ho]
  exact Ev.now _
 ·simp only [c, if_false]
  exact Ev.now _
def a9L (dir : Int) (rows : List (List Int)) (out : List Item) : List Item := rows.foldl (fun o b => a6W o dir b) out
theorem a8n (out : List Item) (dir : Int) (b : List Int) : (a6W out dir b).length ≤ out.length + 1 := by
 unfold a6W
 split
 ·rw [List.length_append, List.length_singleton]; omega
 ·omega
theorem b9Z (dir : Int) : ∀ (rows : List (List Int)) (out : List Item), (∀ b ∈ rows, Bytes b ∧ b.length < 140737488355328) → out.length + rows.length ≤ 3000000000000 → Ev (fun k => capture_notes_read.each k dir rows out) (a9L dir rows out)
 | [], out, _, _ => Ev.now _
 | b :: t, out, h, hn => by
  obtain ⟨hb, hl⟩ := h b (by simp); rw [List.length_cons] at hn; have := a8n out dir b; exact Ev.bind (b9Y out dir b hb hl (by omega)) (b9Z dir t (a6W out dir b) (fun y hy => h y (by simp [hy])) (by omega))
theorem a7d (dir : Int) : ∀ (rows : List (List Int)) (out : List Item), (a9L dir rows out).length ≤ out.length + rows.length
 | [], out => Nat.le_refl _
 | b :: t, out => by
  have h1 := a8n out dir b; have h2 := a7d dir t (a6W out dir b); rw [List.length_cons]
  show (a9L dir t (a6W out dir b)).length ≤ _
  omega
def bare (s : DF) : DF := { s with done := [] }
theorem b3F (m : Int) (wide : Bool) (s : DF) (a b : List Int) : (X6 m wide s (a ++ b)).done = (X6 m wide s a).done ++ (X6 m wide (bare (X6 m wide s a)) b).done ∧ bare (X6 m wide s (a ++ b)) = bare (X6 m wide (bare (X6 m wide s a)) b) := by
 have e : X6 m wide s (a ++ b) = ahead (X6 m wide s a).done (X6 m wide (bare (X6 m wide s a)) b) := by
  rw [c0W]
  conv => lhs; rw [c6n (X6 m wide s a), b6e]
  rfl
 rw [e]
 exact ⟨rfl, rfl⟩
theorem c6t (l : List Item) (hl : l.length < 4611686018427387904) : ∀ (d i : Nat), l.length - i = d → i ≤ l.length → Ev (fun k => L6.l0 k l l (i : Int)) true := by
 intro d
 induction d with
 | zero =>
  intro i hd hi; refine Ev.step (f := fun _ => some true) (fun k => ?_) (Ev.now _); rw [L6.l0, if_neg (by omega)]
 | succ d ih =>
  intro i hd hi; refine Ev.step (f := fun k => L6.l0 k l l ((i + 1 : Nat) : Int)) (fun k => ?_) (ih (i + 1) (by omega) (by omega)); rw [L6.l0, if_pos (by omega), if_pos (by omega), if_pos (by omega), if_pos rfl, if_pos rfl, if_pos rfl, w64 (by omega) (by omega)]
  rfl
theorem c6u (l : List Item) (hl : l.length < 4611686018427387904) : Ev (fun k => L6.f k l l) true := by
 unfold L6.f
 simp only [if_true]
 exact c6t l hl _ 0 rfl (by omega)
theorem d8R {x : Int} (h : (Lit.int .u32 x).wf = true) : 0 ≤ x ∧ x < 4294967296 := wf_u32 h
theorem d8S {l : List Int} (h : ∀ x ∈ l, (Lit.int .u8 x).wf = true) : Bytes l := d3y h
theorem d8T (n : Nat) : umpirelaw11_awake.f (n + 1000) = some true := by kernel_rfl
theorem b9N : Ev (fun k => umpirelaw11_awake.f k) true := ⟨1000, fun k hk => by
 obtain ⟨n, rfl⟩ : ∃ n, k = n + 1000 := ⟨k - 1000, by omega⟩
 exact d8T n⟩
def d8U (b : List Int) : Prop := Bytes b ∧ b.length ≤ 70000
theorem d17 {u : List Int} (hb : Bytes u) (wide : Bool) : Bytes (a8H u wide).1 ∧ (a8H u wide).1.length ≤ u.length := by
 unfold a8H
 split
 ·exact ⟨hb.take _, by rw [List.length_take]; omega⟩
 ·exact ⟨Bytes.nil, Nat.zero_le _⟩
theorem c4g (m : Int) (wide : Bool) (s : DF) (hb : Bytes s.held) (hd : ∀ b ∈ s.done, d8U b) : ∀ b ∈ (a4t m wide s).done, d8U b := by
 have hu := a8K hb m
 have hz := b1o wide
 have hs := c8l wide
 unfold a4t
 split
 ·split
  ·exact hd
  ·split
   ·exact hd
   ·split
    ·exact hd
    ·rename_i h3
     split
     ·intro b hbm
      rcases List.mem_append.1 hbm with h | h
      ·exact hd b h
      ·rw [List.mem_singleton.1 h]; obtain ⟨o1, o2⟩ := d17 hu wide; exact ⟨o1, by omega⟩
     ·exact hd
 ·exact hd
theorem a8O (m : Int) (wide : Bool) : ∀ (l : List Int) (s : DF), Bytes l → Bytes s.held → (∀ b ∈ s.done, d8U b) → ∀ b ∈ (X6 m wide s l).done, d8U b
 | [], s, _, _, hd => hd
 | c :: l, s, hl, hs, hd => by
  have hc := hl c (by simp); have ht : Bytes l := fun x hx => hl x (by simp [hx])
  rw [a8L]; refine a8O m wide l _ ht (b1p hs hc) ?_; unfold a4b
  split
  ·split
   ·exact c4g m wide s hs hd
   ·exact hd
  ·split
   ·exact hd
   ·exact hd
def gov (m : Int) (wide : Bool) : List Note → DF → DF → List Item → List Item
 | [], _, _, out => out
 | x :: t, s, g, out =>
  if x.f0 = 1 then gov m wide t (bare (X6 0 wide s x.f2)) g (a9L 2 (X6 0 wide s x.f2).done out)
  else if x.f0 = 2 then gov m wide t s (bare (X6 m wide g x.f2)) (a9L 1 (X6 m wide g x.f2).done out)
  else if x.f0 = 3 then gov m wide t DF.init g out
  else if x.f0 = 4 then gov m wide t s DF.init out
  else gov m wide t s g out
theorem b90 (m : Int) (wide : Bool) (h0 : 0 ≤ m) (h1 : m < 4294967296) (dir : Int) (s : DF) (b : List Int) (out : List Item) {α : Type} (H : Nat → DF → List Item → Option α) (r : α) (hb : Bytes b) (hd : s.done = []) (hs : Bytes s.held) (hl : s.held.length + b.length ≤ 1000000000) (ho : out.length + b.length ≤ 1000000000)
  (hr : Ev (fun k => H k (bare (X6 m wide s b)) (a9L dir (X6 m wide s b).done out)) r) :
  Ev (fun k => (DF.feed k m wide s b).bind fun s' => (capture_notes_read.each k dir s'.done out).bind fun o => H k (bare s') o) r := by
 have hds : s.done.length = 0 := by rw [hd]; rfl
 have hh := a1Z m wide b s hb hs
 have hy := a8O m wide b s hb hs (by rw [hd]; intro x hx; cases hx)
 refine Ev.bind (b9W m wide h0 h1 b s hb hs (by omega) (by omega)) ?_
 exact Ev.bind (b9Z dir _ out (fun x hx => ⟨(hy x hx).1, by have := (hy x hx).2; omega⟩) (by omega)) hr
theorem b2n (m : Int) (wide : Bool) (h0 : 0 ≤ m) (h1 : m < 4294967296) : ∀ (ns : List Note) (s g : DF) (out : List Item), (∀ x ∈ ns, Bytes x.f2) → s.done = [] → g.done = [] → Bytes s.held → Bytes g.held →
  s.held.length + tot ns ≤ 1000000000 → g.held.length + tot ns ≤ 1000000000 → out.length + tot ns ≤ 1000000000 → Ev (fun k => capture_notes_read.go k m wide ns s g out) (gov m wide ns s g out)
 | [], s, g, out, _, _, _, _, _, _, _, _ => Ev.now _
 | x :: t, s, g, out, hn, hs1, hg1, hs2, hg2, hs3, hg3, ho => by
  have hx := hn x (by simp); have ht : ∀ y ∈ t, Bytes y.f2 := fun y hy => hn y (by simp [hy])
  simp only [tot] at hs3 hg3 ho
  have i1 : Bytes DF.init.held := Bytes.nil; have i2 : DF.init.held.length = 0 := rfl; unfold gov; unfold capture_notes_read.go
  by_cases a1 : x.f0 = 1
  ·simp only [a1, if_true]
   have hh := a1Z 0 wide x.f2 s hx hs2; have hel := a7d 2 (X6 0 wide s x.f2).done out; have hds : s.done.length = 0 := by rw [hs1]; rfl
   exact b90 0 wide (by decide) (by decide) 2 s x.f2 out (fun k s o => capture_notes_read.go k m wide t s g o) _ hx hs1 hs2 (by omega) (by omega)
    (b2n m wide h0 h1 t (bare (X6 0 wide s x.f2)) g _ ht rfl hg1 hh.1 hg2 (by show (X6 0 wide s x.f2).held.length + _ ≤ _; omega) (by omega) (by omega))
  ·rw [if_neg a1]; refine Ev.congr (fun k => if_neg a1) ?_
   by_cases a2 : x.f0 = 2
   ·simp only [a2, if_true]
    have hh := a1Z m wide x.f2 g hx hg2; have hel := a7d 1 (X6 m wide g x.f2).done out; have hdg : g.done.length = 0 := by rw [hg1]; rfl
    exact b90 m wide h0 h1 1 g x.f2 out (fun k g o => capture_notes_read.go k m wide t s g o) _ hx hg1 hg2 (by omega) (by omega)
     (b2n m wide h0 h1 t s (bare (X6 m wide g x.f2)) _ ht hs1 rfl hs2 hh.1 (by omega) (by show (X6 m wide g x.f2).held.length + _ ≤ _; omega) (by omega))
   ·rw [if_neg a2]; refine Ev.congr (fun k => if_neg a2) ?_
    by_cases a3 : x.f0 = 3
    ·rw [if_pos a3]; refine Ev.congr (fun k => if_pos a3) ?_; exact b2n m wide h0 h1 t DF.init g out ht rfl hg1 i1 hg2 (by omega) (by omega) (by omega)
    ·rw [if_neg a3]; refine Ev.congr (fun k => if_neg a3) ?_
     by_cases a4 : x.f0 = 4
     ·rw [if_pos a4]; refine Ev.congr (fun k => if_pos a4) ?_; exact b2n m wide h0 h1 t s DF.init out ht hs1 rfl hs2 i1 (by omega) (by omega) (by omega)
     ·rw [if_neg a4]; refine Ev.congr (fun k => if_neg a4) ?_; exact b2n m wide h0 h1 t s g out ht hs1 hg1 hs2 hg2 (by omega) (by omega) (by omega)
theorem b7W (l rest : List Int) (at_ : Nat) (hr : l.drop at_ = rest) (hat : at_ ≤ 2) (hb : Bytes rest) : Ev (fun k => G6.j1 k l (at_ : Int) 0 0) (a5w rest at_) := by
 refine Ev.step (f := fun _ => some (a5w rest at_)) (fun k => ?_) (Ev.now _)
 rw [G6.j1]
 have hlen : rest.length = l.length - at_ := by rw [← hr, List.length_drop]
 have e9K : ∀ i : Nat, i < rest.length → rd l ((at_ + i : Nat) : Int) = rest.getD i 0 := by
  intro i hi; rw [a2p (at_ + i) (by omega), List.getD_eq_getElem?_getD, List.getElem?_eq_getElem hi]
  simp only [← hr, List.getElem_drop, Option.getD_some]
 unfold a5w
 cases rest with
 | nil =>
  simp only [List.length_nil] at hlen
  rw [if_pos (by omega)]
 | cons a t =>
  simp only [List.length_cons] at hlen
  have ha := hb a (by simp); have h0 : rd l (at_ : Int) = a := by simpa using e9K 0 (by simp)
  rw [if_neg (by omega), if_pos (by omega), if_pos (by omega), h0, w64 (x := a) (by omega) (by omega), Int.tmod_eq_emod_of_nonneg ha.1]
  by_cases o : a % 2 = 1
  ·simp only [o, if_true]
   by_cases f : a = 255
   ·simp [f]
   ·simp only [f, if_false]
    rw [w64 (by omega) (by omega)]
  ·simp only [o, if_false]
   rw [w64 (x := (at_ : Int) + 1) (by omega) (by omega)]
   cases t with
   | nil =>
    simp only [List.length_nil] at hlen
    rw [if_pos (by omega)]
   | cons b r =>
    simp only [List.length_cons] at hlen
    have hbb := hb b (by simp); have h1 : rd l ((at_ : Int) + 1) = b := by simpa using e9K 1 (by simp)
    rw [if_neg (by omega), if_pos (by omega), if_pos (by omega), h1, w64 (x := b) (by omega) (by omega), Int.tmod_eq_emod_of_nonneg hbb.1]
    by_cases e : b % 2 = 0
    ·simp [e]
    ·simp only [e, if_false, false_or]
     rw [w64 (x := 256 * a) (by omega) (by omega), w64 (x := 256 * a + b) (by omega) (by omega), w64 (by omega) (by omega)]
     by_cases z : a = 0
     ·by_cases y : b = 255
      ·simp [z, y]
      ·simp [z, y]
     ·simp [z]
theorem b4v (l : List Int) (hb : Bytes l) : Ev (fun k => G6.f k l) (a3F l) := by
 unfold G6.f a3F
 cases l with
 | nil =>
  simp only [List.length_nil, show ¬ (((0 : Nat) : Int) > 0) by decide, if_false]
  refine Ev.step (f := fun k => G6.j1 k [] 0 0 0) (fun k => by rw [G6.j0, if_neg (by decide)]) ?_; exact b7W [] [] 0 rfl (by decide) Bytes.nil
 | cons a t =>
  simp only [show ((a :: t).length : Int) > 0 by simp <;> omega, show (0 : Int) < ((a :: t).length : Int) by simp <;> omega, if_true, rd0]
  by_cases c : a = 255
  ·subst c
   simp only [beq_self_eq_true, if_true]
   cases t with
   | nil =>
    refine Ev.step (f := fun _ => some (0, 0, 2)) (fun k => ?_) (Ev.now _); rw [G6.j0, if_pos rfl, if_pos (by simp <;> omega)]
   | cons b r =>
    by_cases d : b = 3
    ·subst d
     simp only [if_true]
     refine Ev.step (f := fun k => G6.j1 k (255 :: 3 :: r) 2 0 0) (fun k => ?_) ?_
     ·rw [G6.j0, if_pos rfl, if_neg (by simp <;> omega), if_pos (by simp <;> omega), rd1, if_pos rfl]
     ·exact b7W (255 :: 3 :: r) r 2 rfl (by decide) (fun x hx => hb x (by simp [hx]))
    ·simp only [d, if_false]
     refine Ev.step (f := fun _ => some (0, 0, 3)) (fun k => ?_) (Ev.now _); rw [G6.j0, if_pos rfl, if_neg (by simp <;> omega), if_pos (by simp <;> omega), rd1, if_neg d]
  ·have : (a == 255) = false := by simpa using c
   simp only [this, c, if_false]
   refine Ev.step (f := fun k => G6.j1 k (a :: t) 0 0 0) (fun k => by rw [G6.j0, if_neg (by decide)]) ?_; exact b7W (a :: t) (a :: t) 0 rfl (by decide) hb
theorem b1q : ∀ (l : List Int) (i : Bool) (h : List Int), Bytes l → Bytes h → (a5S i h l).length ≤ l.length ∧ ∀ f ∈ a5S i h l, Bytes f ∧ f.length ≤ h.length + l.length
 | [], i, h, _, _ => by
  unfold a5S
  simp
 | c :: l, true, h, hl, hh => by
  have hc := hl c (by simp); have ht : Bytes l := fun x hx => hl x (by simp [hx])
  rw [a5S]
  by_cases b : c = 126
  ·rw [if_pos b]; have e := b1q l true [] ht Bytes.nil; refine ⟨by simp only [List.length_cons]; omega, fun f hf => ?_⟩
   rcases List.mem_cons.1 hf with rfl | hf
   ·exact ⟨hh, by omega⟩
   ·have := e.2 f hf; rw [List.length_nil] at this; exact ⟨this.1, by rw [List.length_cons]; omega⟩
  ·rw [if_neg b]; have e := b1q l true (h ++ [c]) ht (hh.append (Bytes.cons hc Bytes.nil)); refine ⟨by rw [List.length_cons]; omega, fun f hf => ?_⟩; have := e.2 f hf; rw [List.length_append, List.length_singleton] at this; exact ⟨this.1, by rw [List.length_cons]; omega⟩
 | c :: l, false, h, hl, hh => by
  have ht : Bytes l := fun x hx => hl x (by simp [hx])
  rw [a5S]
  by_cases b : c = 126
  ·rw [if_pos b]; have e := b1q l true h ht hh; refine ⟨by rw [List.length_cons]; omega, fun f hf => ?_⟩; have := e.2 f hf; exact ⟨this.1, by rw [List.length_cons]; omega⟩
  ·rw [if_neg b]; have e := b1q l false h ht hh; refine ⟨by rw [List.length_cons]; omega, fun f hf => ?_⟩; have := e.2 f hf; exact ⟨this.1, by rw [List.length_cons]; omega⟩
theorem d30 (b : List Int) (n i : Nat) (hn : n ≤ i) (hi : i < b.length) : (b.take (i + 1)).drop n = (b.take i).drop n ++ [b[i]] := by
 rw [List.take_succ_eq_append_getElem hi, List.drop_append_of_le_length (by rw [List.length_take]; omega)]
theorem c1f (b : List Int) (hl : b.length ≤ 1000000000) : ∀ (d i : Nat) (acc : List (List Int)), b.length - i = d → i ≤ b.length → acc.length ≤ i →
  (Ev (fun k => J3.l0 k b acc (-1) (i : Int)) (acc ++ a5S false [] (b.drop i))) ∧ ∀ n : Nat, n ≤ i → Ev (fun k => J3.l0 k b acc (n : Int) (i : Int)) (acc ++ a5S true ((b.take i).drop n) (b.drop i)) := by
 intro d
 induction d with
 | zero =>
  intro i acc hd hi ha; have e : b.drop i = [] := List.drop_eq_nil_of_le (by omega); have s1 : a5S false [] ([] : List Int) = [] := by rw [a5S]
  have s2 : ∀ h : List Int, a5S true h ([] : List Int) = [] := fun h => by rw [a5S]
  refine ⟨Ev.step (f := fun _ => some acc) (fun k => ?_) (by rw [e, s1, List.append_nil]; exact Ev.now _), fun n hn => Ev.step (f := fun _ => some acc) (fun k => ?_) (by rw [e, s2, List.append_nil]; exact Ev.now _)⟩
  ·rw [J3.l0, if_neg (by omega)]
  ·rw [J3.l0, if_neg (by omega)]
 | succ d ih =>
  intro i acc hd hi ha; have hlt : i < b.length := by omega
  have g1 : ((i : Nat) : Int) < ((b.length : Nat) : Int) := by omega
  have g2 : (0 : Int) ≤ ((i : Nat) : Int) := by omega
  have g3 : ((i : Nat) : Int) ≤ ((b.length : Nat) : Int) := by omega
  have ga : acc.length < 5864062014805 := by omega
  have hdr : b.drop i = b[i] :: b.drop (i + 1) := List.drop_eq_getElem_cons hlt; have n1 := ih (i + 1) acc (by omega) (by omega) (by omega); have n2 := fun x : List Int => ih (i + 1) (acc ++ [x]) (by omega) (by omega) (by rw [List.length_append, List.length_singleton]; omega)
  have ns : ∀ n : Nat, n ≤ i → (((n : Nat) : Int) ≥ 0 ∧ (0 : Int) ≤ ((n : Nat) : Int) ∧ ((n : Nat) : Int) ≤ ((i : Nat) : Int)) := fun n hn => ⟨by omega, by omega, by omega⟩
  have em : (b.take (i + 1)).drop (i + 1) = [] := List.drop_eq_nil_of_le (by rw [List.length_take]; omega); have e1 : wrap64 ((i : Int) + 1) = ((i + 1 : Nat) : Int) := w64 (by omega) (by omega)
  by_cases c : b[i] = 126
  ·refine ⟨?_, fun n hn => ?_⟩
   ·have nx := n1.2 (i + 1) (Nat.le_refl _); rw [em] at nx; rw [hdr, a5S, if_pos c]; refine Ev.step (fun k => ?_) nx; rw [J3.l0, if_pos g1, if_pos g2, a2p i hlt, if_pos c, if_neg (by decide), e1]
   ·have nx := (n2 ((b.take i).drop n)).2 (i + 1) (Nat.le_refl _); rw [em, List.append_assoc, List.singleton_append] at nx; obtain ⟨a1, a2, a3⟩ := ns n hn; rw [hdr, a5S, if_pos c]; refine Ev.step (fun k => ?_) nx; rw [J3.l0, if_pos g1, if_pos g2, a2p i hlt, if_pos c, if_pos a1, if_pos a2, if_pos a3, if_pos g3, if_pos ga, e1, Int.toNat_natCast, Int.toNat_natCast]
  ·refine ⟨?_, fun n hn => ?_⟩
   ·rw [hdr, a5S, if_neg c]; refine Ev.step (fun k => ?_) n1.1; rw [J3.l0, if_pos g1, if_pos g2, a2p i hlt, if_neg c, e1]
   ·have nx := n1.2 n (Nat.le_succ_of_le hn); rw [d30 b n i hn hlt] at nx; rw [hdr, a5S, if_neg c]; refine Ev.step (fun k => ?_) nx; rw [J3.l0, if_pos g1, if_pos g2, a2p i hlt, if_neg c, e1]
theorem c1g (b : List Int) (hl : b.length ≤ 1000000000) : Ev (fun k => J3.f k b) (a5S false [] b) := (c1f b hl b.length 0 [] (by omega) (by omega) (by simp)).1
def a7Q (m : Int) (wide : Bool) (f : List Int) : List Int × Int :=
 if (f.filter fun c => !a5R m c).length = 0 then ([], 0)
 else if (X9 f m).2 = true then
  if ((X9 f m).1.length : Int) < DF.size wide + 2 then ([], 3)
  else if ((X9 f m).1.length : Int) > DF.size wide + 65535 then ([], 4)
  else if (a8H (X9 f m).1 wide).2 = true then ((a8H (X9 f m).1 wide).1, 1) else ([], 5)
 else ([], 2)
theorem c6v (m : Int) (wide : Bool) (h0 : 0 ≤ m) (h1 : m < 4294967296) (f : List Int) (hb : Bytes f) (hl : f.length ≤ 1000000000) : Ev (fun k => a14.f k f m wide) (a7Q m wide f) := by
 have hu := a8K hb m
 have hz := DF.size_le wide
 have hs : N9.f wide = some (DF.size wide) := by rw [b2l, c8l]
 have g1 : f.length < 70368744177664 := by omega
 have q : ¬ ((X9 f m).1.length : Int) > DF.size wide + 65535 → (X9 f m).1.length ≤ 100000 := fun h => by omega
 have e1 : wrap64 (DF.size wide + 2) = DF.size wide + 2 := w64 (by omega) (by omega)
 have e2 : wrap64 (DF.size wide + 65535) = DF.size wide + 65535 := w64 (by omega) (by omega)
 unfold a14.f
 refine Ev.bind (b9S f m hb h0 h1 g1) ?_
 unfold a7Q
 by_cases a : (f.filter fun c => !a5R m c).length = 0
 ·have a2 : (((f.filter fun c => !a5R m c).length : Nat) : Int) = 0 := by rw [a]; rfl
  simp only [a, a2, if_true]
  exact Ev.now _
 ·have a2 : ¬ (((f.filter fun c => !a5R m c).length : Nat) : Int) = 0 := fun h => a (Int.ofNat_inj.1 h)
  rw [if_neg a]
  simp only [a2, if_false]
  refine Ev.bind (b9o f m hb h0 h1 g1) ?_
  by_cases b : (X9 f m).2 = true
  ·simp only [b, if_true, hs, Option.bind_some, e1, e2]
   by_cases c : ((X9 f m).1.length : Int) < DF.size wide + 2
   ·simp only [c, if_true]
    exact Ev.now _
   ·simp only [c, if_false]
    by_cases d : ((X9 f m).1.length : Int) > DF.size wide + 65535
    ·simp only [d, if_true]
     exact Ev.now _
    ·simp only [d, if_false]
     refine Ev.bind (c6m _ wide hu (q d)) ?_
     by_cases e : (a8H (X9 f m).1 wide).2 = true
     ·simp only [e, if_true]
      exact Ev.now _
     ·simp only [e, if_false]
      exact Ev.now _
  ·simp only [b, if_false]
   exact Ev.now _
def tj (s : DF) (p : List Int × Int) : DF :=
 { s with done := if p.2 = 1 then s.done ++ [p.1] else s.done, tg := if p.2 = 1 then wrap64 (s.tg + 1) else s.tg, ta := if p.2 = 2 then wrap64 (s.ta + 1) else s.ta, ts := if p.2 = 3 then wrap64 (s.ts + 1) else s.ts, tl := if p.2 = 4 then wrap64 (s.tl + 1) else s.tl, tw := if p.2 = 5 then wrap64 (s.tw + 1) else s.tw }
theorem d8V (s : DF) (p : List Int × Int) : (tj s p).done = if p.2 = 1 then s.done ++ [p.1] else s.done := rfl
theorem e9L (s : DF) (p : List Int × Int) : (tj s p).tg = if p.2 = 1 then wrap64 (s.tg + 1) else s.tg := rfl
theorem e9M (s : DF) (p : List Int × Int) : (tj s p).ta = if p.2 = 2 then wrap64 (s.ta + 1) else s.ta := rfl
theorem e9N (s : DF) (p : List Int × Int) : (tj s p).ts = if p.2 = 3 then wrap64 (s.ts + 1) else s.ts := rfl
theorem e9O (s : DF) (p : List Int × Int) : (tj s p).tl = if p.2 = 4 then wrap64 (s.tl + 1) else s.tl := rfl
theorem e9P (s : DF) (p : List Int × Int) : (tj s p).tw = if p.2 = 5 then wrap64 (s.tw + 1) else s.tw := rfl
theorem d18 : ∀ (n : Nat) (l acc : List Int), l.length ≤ n → (a6k l acc).2 = true → acc.length + (if l = [] then 0 else 1) ≤ (a6k l acc).1.length := by
 intro n
 induction n with
 | zero =>
  intro l acc hl h; obtain rfl : l = [] := List.eq_nil_of_length_eq_zero (by omega)
  simp [a6k]
 | succ n ih =>
  intro l acc hl h
  cases l with
  | nil => simp [a6k]
  | cons c t =>
   rw [List.length_cons] at hl; rw [if_neg (by simp)]; rw [a5j] at h ⊢
   by_cases a : c = 126
   ·rw [if_pos a] at h
    cases h
   ·rw [if_neg a] at h ⊢
    by_cases b : c = 125
    ·rw [if_pos b] at h ⊢
     cases t with
     | nil => cases h
     | cons d t' =>
      rw [List.length_cons] at hl
      simp only [] at h ⊢
      by_cases e : d = 126
      ·rw [if_pos e] at h
       cases h
      ·rw [if_neg e] at h ⊢; have := ih t' _ (by omega) h; rw [List.length_append, List.length_singleton] at this
       omega
    ·rw [if_neg b] at h ⊢; have := ih t _ (by omega) h; rw [List.length_append, List.length_singleton] at this
     omega
theorem b91 (m : Int) (f : List Int) (h : (X9 f m).2 = true) : (X9 f m).1.length = 0 ↔ (f.filter fun c => !a5R m c).length = 0 := by
 unfold X9 at h ⊢
 rw [(b3C m f).1 []] at h ⊢
 constructor
 ·intro h2; have := d18 _ _ [] (Nat.le_refl _) h
  by_cases e : (f.filter fun c => !a5R m c) = []
  ·rw [e]
   rfl
  ·rw [if_neg e] at this
   omega
 ·intro h2; rw [List.eq_nil_of_length_eq_zero h2]
  simp [a6k]
theorem d19 (m : Int) (f : List Int) (h : (f.filter fun c => !a5R m c).length = 0) : (X9 f m).2 = true := by
 unfold X9
 rw [(b3C m f).1 [], List.eq_nil_of_length_eq_zero h]
 simp [a6k]
theorem c4i (m : Int) (wide : Bool) (s : DF) (f : List Int) : tally m wide (norm s) f = tj (norm s) (a7Q m wide f) := by
 unfold tally a7Q
 by_cases a : (f.filter fun c => !a5R m c).length = 0
 ·have u := d19 m f a; have v := (b91 m f u).2 a; unfold a4t
  simp only [a, u, v, if_true]
  rfl
 ·rw [if_neg a]
  by_cases b : (X9 f m).2 = true
  ·have v : ¬ (X9 f m).1.length = 0 := fun h => a ((b91 m f b).1 h)
   unfold a4t
   simp only [b, v, if_true, if_false]
   by_cases c : ((X9 f m).1.length : Int) < DF.size wide + 2
   ·simp only [c, if_true]
    rfl
   ·simp only [c, if_false]
    by_cases d : ((X9 f m).1.length : Int) > DF.size wide + 65535
    ·simp only [d, if_true]
     rfl
    ·simp only [d, if_false]
     by_cases e : (a8H (X9 f m).1 wide).2 = true
     ·simp only [e, if_true]
      rfl
     ·simp only [e, if_false]
      rfl
  ·unfold a4t
   simp only [b, if_false]
   rfl
theorem d8W (s : DF) (p : List Int × Int) : tj (norm s) p = norm (tj (norm s) p) := rfl
theorem b7X (m : Int) (wide : Bool) : ∀ (l : List (List Int)) (s : DF), l.foldl (tally m wide) (norm s) = l.foldl (fun s f => tj s (a7Q m wide f)) (norm s)
 | [], _ => rfl
 | f :: l, s => by
  rw [List.foldl_cons, List.foldl_cons, c4i, d8W]; exact b7X m wide l _
def outv (s : DF) : (List (List Int)) × Int × Int × Int × Int × Int := (s.done, s.tg, s.ta, s.ts, s.tl, s.tw)
theorem d31 (m : Int) (wide : Bool) (l : List (List Int)) (i : Nat) (hi : i < 9223372036854775807) (x : List (List Int)) (v t0 t1 t2 t3 t4 : Int) (r : (List (List Int)) × Int × Int × Int × Int × Int)
  (h : Ev (fun k => umpireref07_All.l0 k m wide x l ((i + 1 : Nat) : Int) t0 (if v = 2 then wrap64 (t1 + 1) else t1) (if v = 3 then wrap64 (t2 + 1) else t2) (if v = 4 then wrap64 (t3 + 1) else t3) (if v = 5 then wrap64 (t4 + 1) else t4)) r) : Ev (fun k => umpireref07_All.j1 k m wide x l (i : Int) v t0 t1 t2 t3 t4) r := by
 have e : wrap64 ((i : Int) + 1) = ((i + 1 : Nat) : Int) := w64 (by omega) (by omega)
 refine Ev.step (f := fun k => umpireref07_All.j2 k m wide x l (i : Int) v t0 (if v = 2 then wrap64 (t1 + 1) else t1) t2 t3 t4) (fun k => ?_) (Ev.step (f := fun k => umpireref07_All.j3 k m wide x l (i : Int) v t0 (if v = 2 then wrap64 (t1 + 1) else t1) (if v = 3 then wrap64 (t2 + 1) else t2) t3 t4) (fun k => ?_) (Ev.step (fun k => ?_) h))
 ·rw [umpireref07_All.j1]
  by_cases a : v = 2
  ·rw [if_pos a, if_pos a]
  ·rw [if_neg a, if_neg a]
 ·rw [umpireref07_All.j2]
  by_cases a : v = 3
  ·rw [if_pos a, if_pos a]
  ·rw [if_neg a, if_neg a]
 ·rw [umpireref07_All.j3, e]
  by_cases a : v = 4
  ·by_cases b : v = 5
   ·rw [if_pos a, if_pos b, if_pos a, if_pos b]
   ·rw [if_pos a, if_neg b, if_pos a, if_neg b]
  ·by_cases b : v = 5
   ·rw [if_neg a, if_pos b, if_neg a, if_pos b]
   ·rw [if_neg a, if_neg b, if_neg a, if_neg b]
theorem d2a (m : Int) (wide : Bool) (h0 : 0 ≤ m) (h1 : m < 4294967296) (l : List (List Int)) (hn : l.length ≤ 1000000000) (hb : ∀ f ∈ l, Bytes f ∧ f.length ≤ 1000000000) : ∀ (d i : Nat) (s : DF), l.length - i = d → i ≤ l.length → s.done.length ≤ i →
  Ev (fun k => umpireref07_All.l0 k m wide s.done l (i : Int) s.tg s.ta s.ts s.tl s.tw) (outv ((l.drop i).foldl (fun s f => tj s (a7Q m wide f)) s)) := by
 intro d
 induction d with
 | zero =>
  intro i s hd hi hs; rw [List.drop_eq_nil_of_le (by omega), List.foldl_nil]; refine Ev.step (f := fun _ => some (s.done, s.tg, s.ta, s.ts, s.tl, s.tw)) (fun k => ?_) (Ev.now _); rw [umpireref07_All.l0, if_neg (by omega)]
 | succ d ih =>
  intro i s hd hi hs; have hlt : i < l.length := by omega
  have g1 : ((i : Nat) : Int) < ((l.length : Nat) : Int) := by omega
  have g2 : (0 : Int) ≤ ((i : Nat) : Int) := by omega
  have ga : s.done.length < 5864062014805 := by omega
  have gi : i < 9223372036854775807 := by omega
  obtain ⟨hbi, hli⟩ := hb l[i] (List.getElem_mem hlt); have hsd : (tj s (a7Q m wide l[i])).done.length ≤ i + 1 := by
   unfold tj
   simp only []
   split
   ·rw [List.length_append, List.length_singleton]
    omega
   ·omega
  have next := ih (i + 1) (tj s (a7Q m wide l[i])) (by omega) (by omega) hsd; rw [List.drop_eq_getElem_cons hlt, List.foldl_cons]; refine Ev.step (fun k => by rw [umpireref07_All.l0, if_pos g1, if_pos g2, d8M l i hlt]) ?_; refine Ev.bind (c6v m wide h0 h1 l[i] hbi hli) ?_; rw [d8V, e9L, e9M, e9N, e9O, e9P] at next
  by_cases a : (a7Q m wide l[i]).2 = 1
  ·rw [if_pos a, if_pos a] at next; exact Ev.congr (f := fun k => umpireref07_All.j1 k m wide (s.done ++ [(a7Q m wide l[i]).1]) l (i : Int) (a7Q m wide l[i]).2 (wrap64 (s.tg + 1)) s.ta s.ts s.tl s.tw) (fun k => by rw [if_pos a, if_pos ga]) (d31 m wide l i gi _ _ _ _ _ _ _ _ next)
  ·rw [if_neg a, if_neg a] at next; exact Ev.congr (f := fun k => umpireref07_All.j1 k m wide s.done l (i : Int) (a7Q m wide l[i]).2 s.tg s.ta s.ts s.tl s.tw) (fun k => by rw [if_neg a]) (d31 m wide l i gi _ _ _ _ _ _ _ _ next)
theorem d2b (m : Int) (wide : Bool) (h0 : 0 ≤ m) (h1 : m < 4294967296) (b : List Int) (hb : Bytes b) (hl : b.length ≤ 100000000) : Ev (fun k => umpireref07_All.f k b m wide) (g0r m wide b) := by
 have hs := b1q b false [] hb Bytes.nil
 have hs2 : ∀ f ∈ a5S false [] b, Bytes f ∧ f.length ≤ 1000000000 := fun f hf => ⟨(hs.2 f hf).1, by have := (hs.2 f hf).2; rw [List.length_nil] at this; omega⟩
 have g1 : b.length ≤ 1000000000 := by omega
 have g2 : (a5S false [] b).length ≤ 1000000000 := by omega
 unfold umpireref07_All.f
 refine Ev.bind (c1g b g1) ?_
 have h := d2a m wide h0 h1 (a5S false [] b) g2 hs2 (a5S false [] b).length 0 (norm DF.init) rfl (Nat.zero_le _) (Nat.le_refl _)
 rw [List.drop_zero, ← b7X] at h
 have e := a8M m wide b DF.init (fun _ => rfl)
 rw [show (a5S DF.init.inn DF.init.held b) = a5S false [] b from rfl] at e
 rw [← e] at h
 exact h
theorem b5M (out : List Item) (dir : Int) (b : List Int) (hb : Bytes b) (hl : b.length < 140737488355328) (ho : out.length < 3518437208883) : Ev (fun k => J6.f k out dir b) (a6W out dir b) := by
 unfold J6.f a6W
 by_cases c : (a3F b).2.2 = 0
 ·obtain ⟨h1, h2⟩ := d3C b c; have e : b0V b = ((a3F b).1, b.drop (a3F b).2.1.toNat, 0) := by unfold b0V; rw [if_pos c]
  rw [e, if_pos rfl]; refine Ev.bind (b4v b hb) ?_; refine Ev.congr (fun k => if_pos c) ?_; refine Ev.congr (fun k => if_pos (by omega)) ?_; refine Ev.congr (fun k => if_pos h1) ?_; refine Ev.congr (fun k => if_pos (by rw [List.length_nil, List.length_drop]; omega)) ?_; refine Ev.congr (fun k => if_pos ho) ?_; rw [List.nil_append]; exact Ev.now _
 ·have e : b0V b = (0, [], (a3F b).2.2) := by unfold b0V; rw [if_neg c]
  rw [e, if_neg c]; refine Ev.bind (b4v b hb) ?_; refine Ev.congr (fun k => if_neg c) ?_; exact Ev.now _
theorem d2c (out : List Item) (dir : Int) : a6W out dir [] = out := rfl
def c1h (dir link : Int) : List S51 → List Item → List Item
 | [], out => out
 | x :: t, out => c1h dir link t (a6W out (capture_records_read.of dir link x.f3).1 (capture_records_read.of dir link x.f3).2)
theorem of_sub (dir link : Int) (d : List Int) (hb : Bytes d) (N : Nat) (hn : d.length < N) : Bytes (capture_records_read.of dir link d).2 ∧ (capture_records_read.of dir link d).2.length < N := by
 unfold capture_records_read.of
 split
 ·exact ⟨hb.drop _, by show (d.drop 1).length < N; rw [List.length_drop]; omega⟩
 ·exact ⟨hb, hn⟩
theorem c4j (dir link : Int) : ∀ (l : List S51) (out : List Item), (∀ r ∈ l, Bytes r.f3 ∧ r.f3.length < 140737488355328) → out.length + l.length ≤ 3000000000000 → Ev (fun k => capture_records_read.go k dir link l out) (c1h dir link l out)
 | [], out, _, _ => Ev.now _
 | x :: t, out, h, hn => by
  obtain ⟨hb, hl⟩ := h x (by simp); obtain ⟨o1, o2⟩ := of_sub dir link x.f3 hb _ hl; rw [List.length_cons] at hn; have := a8n out (capture_records_read.of dir link x.f3).1 (capture_records_read.of dir link x.f3).2; exact Ev.bind (b9Y out _ _ o1 o2 (by omega)) (c4j dir link t _ (fun y hy => h y (by simp [hy])) (by omega))
theorem c8p (dir link : Int) : ∀ (l : List S51) (out : List Item), (∀ r ∈ l, Bytes r.f3 ∧ r.f3.length < 140737488355328) → out.length + l.length ≤ 3000000000000 → Ev (fun k => G9.go k dir link l out) (c1h dir link l out)
 | [], out, _, _ => Ev.now _
 | x :: t, out, h, hn => by
  obtain ⟨hb, hl⟩ := h x (by simp); obtain ⟨o1, o2⟩ := of_sub dir link x.f3 hb _ hl; rw [List.length_cons] at hn; have hil := a8n out (capture_records_read.of dir link x.f3).1 (capture_records_read.of dir link x.f3).2; have ih := c8p dir link t (a6W out (capture_records_read.of dir link x.f3).1 (capture_records_read.of dir link x.f3).2) (fun y hy => h y (by simp [hy])) (by omega); unfold c1h
  by_cases h4 : link = 204
  ·by_cases hp : 0 < x.f3.length
   ·have e : capture_records_read.of dir link x.f3 = (if rd x.f3 0 = 0 then 1 else 2, x.f3.drop 1) := by unfold capture_records_read.of; rw [if_pos ⟨h4, hp⟩]
    rw [e] at o1 o2 ih ⊢; refine Ev.congr (f := fun k => (J6.f k out (if rd x.f3 0 = 0 then 1 else 2) (x.f3.drop 1)).bind fun o => G9.go k dir link t o) (fun k => ?_) ?_
    ·rw [G9.go, if_pos h4, if_pos hp]
    ·exact Ev.bind (b5M out _ _ o1 o2 (by omega)) ih
   ·have hz : x.f3 = [] := List.eq_nil_of_length_eq_zero (by omega); have e : capture_records_read.of dir link x.f3 = (dir, x.f3) := by unfold capture_records_read.of; rw [if_neg (fun hh => hp hh.2)]
    rw [e] at ih ⊢; rw [hz, d2c] at ih ⊢; refine Ev.congr (f := fun k => G9.go k dir link t out) (fun k => ?_) ih; rw [G9.go, if_pos h4, if_neg hp]
  ·have e : capture_records_read.of dir link x.f3 = (dir, x.f3) := by unfold capture_records_read.of; rw [if_neg (fun hh => h4 hh.1)]
   rw [e] at o1 o2 ih ⊢; refine Ev.congr (f := fun k => (J6.f k out dir x.f3).bind fun o => G9.go k dir link t o) (fun k => ?_) ?_
   ·rw [G9.go, if_neg h4]
   ·exact Ev.bind (b5M out _ _ o1 o2 (by omega)) ih
theorem c6w (l : List Int) (hb : Bytes l) (big : Bool) : Bytes (a13 l big).2.2.2.1 ∧ (a13 l big).2.2.2.1.length ≤ l.length := by
 unfold a13
 (repeat' split)
 ·exact ⟨Bytes.nil, Nat.zero_le _⟩
 ·exact ⟨Bytes.nil, Nat.zero_le _⟩
 ·exact ⟨Bytes.nil, Nat.zero_le _⟩
 ·exact ⟨(hb.drop _).take _, by rw [List.length_take, List.length_drop]; omega⟩
theorem c4k (big : Bool) (l : List Int) (hb : Bytes l) : ∀ (f : Nat) (acc : List S51) (i : Nat), (∀ r ∈ acc, Bytes r.f3 ∧ r.f3.length ≤ l.length) →
  (∀ r ∈ (b0W big f l acc i).1, Bytes r.f3 ∧ r.f3.length ≤ l.length) ∧ ((b0W big f l acc i).2 = (0, 0) ∨ (b0W big f l acc i).2.2 ≠ 0)
 | 0, acc, i, h => ⟨h, .inl rfl⟩
 | f + 1, acc, i, h => by
  unfold b0W
  by_cases h1 : i < l.length
  ·rw [if_pos h1]
   by_cases h2 : (a13 (l.drop i) big).2.2.2.2.2 = 0
   ·rw [if_pos h2]; have hd := c6w (l.drop i) (hb.drop i) big; rw [List.length_drop] at hd; refine c4k big l hb f _ _ (fun r hr => ?_)
    rcases List.mem_append.1 hr with hr | hr
    ·exact h r hr
    ·rw [List.mem_singleton.1 hr]; exact ⟨hd.1, by have := hd.2; show (a13 (l.drop i) big).2.2.2.1.length ≤ l.length; omega⟩
   ·rw [if_neg h2]; exact ⟨h, .inr h2⟩
  ·rw [if_neg h1]; exact ⟨h, .inl rfl⟩
theorem d32 (l : List Int) (hb : Bytes l) : (∀ r ∈ (a6w l).2.2.2.2.1, Bytes r.f3 ∧ r.f3.length ≤ l.length) ∧ ((a6w l).2.2.2.2.2 = (0, 0) ∨ (a6w l).2.2.2.2.2.2 ≠ 0) := by
 unfold a6w
 by_cases h : (a3G l).2.2.2.2 = 0
 ·rw [if_pos h]; exact c4k _ l hb _ [] 24 (fun r hr => by cases hr)
 ·rw [if_neg h]; exact ⟨fun r hr => (by cases hr), .inr h⟩
theorem b6g (out : List Item) (dir : Int) (b : List Int) (ho : ∀ x ∈ out, Bytes x.f2) (hb : Bytes b) : ∀ x ∈ a6W out dir b, Bytes x.f2 := by
 unfold a6W
 split
 ·intro x hx
  rcases List.mem_append.1 hx with hx | hx
  ·exact ho x hx
  ·rw [List.mem_singleton.1 hx]
   show Bytes (b0V b).2.1
   unfold b0V
   split
   ·exact hb.drop _
   ·exact Bytes.nil
 ·exact ho
theorem b7Y (dir link : Int) : ∀ (l : List S51) (out : List Item), (∀ r ∈ l, Bytes r.f3 ∧ r.f3.length < 140737488355328) → (∀ x ∈ out, Bytes x.f2) → ∀ x ∈ c1h dir link l out, Bytes x.f2
 | [], out, _, ho => ho
 | x :: t, out, h, ho => by
  obtain ⟨hb, hl⟩ := h x (by simp); obtain ⟨o1, o2⟩ := of_sub dir link x.f3 hb _ hl; exact b7Y dir link t _ (fun y hy => h y (by simp [hy])) (b6g out _ _ ho o1)
theorem b1r (dir : Int) : ∀ (rows : List (List Int)) (out : List Item), (∀ b ∈ rows, Bytes b) → (∀ x ∈ out, Bytes x.f2) → ∀ x ∈ a9L dir rows out, Bytes x.f2
 | [], out, _, ho => ho
 | b :: t, out, h, ho => b1r dir t (a6W out dir b) (fun y hy => h y (by simp [hy])) (b6g out dir b ho (h b (by simp)))
theorem a8o (m : Int) (wide : Bool) : ∀ (ns : List Note) (s g : DF) (out : List Item), (∀ x ∈ ns, Bytes x.f2) → s.done = [] → g.done = [] → Bytes s.held → Bytes g.held → (∀ x ∈ out, Bytes x.f2) → ∀ x ∈ gov m wide ns s g out, Bytes x.f2
 | [], s, g, out, _, _, _, _, _, ho => by unfold gov; exact ho
 | x :: t, s, g, out, hn, hs, hg, hsb, hgb, ho => by
  have hx := hn x (by simp); have ht : ∀ y ∈ t, Bytes y.f2 := fun y hy => hn y (by simp [hy])
  have ks := a1Z 0 wide x.f2 s hx hsb; have kg := a1Z m wide x.f2 g hx hgb; have rs := a8O 0 wide x.f2 s hx hsb (by rw [hs]; intro b hb; cases hb); have rg := a8O m wide x.f2 g hx hgb (by rw [hg]; intro b hb; cases hb); unfold gov
  split
  ·exact a8o m wide t (bare (X6 0 wide s x.f2)) g _ ht rfl hg ks.1 hgb (b1r 2 _ out (fun b hb => (rs b hb).1) ho)
  ·split
   ·exact a8o m wide t s (bare (X6 m wide g x.f2)) _ ht hs rfl hsb kg.1 (b1r 1 _ out (fun b hb => (rg b hb).1) ho)
   ·split
    ·exact a8o m wide t DF.init g out ht rfl hg Bytes.nil hgb ho
    ·split
     ·exact a8o m wide t s DF.init out ht hs rfl hsb Bytes.nil ho
     ·exact a8o m wide t s g out ht hs hg hsb hgb ho
theorem c1i (b : List Int) (hb : Bytes b) (hl : b.length ≤ 4000) (dir m : Int) (wide : Bool) (c0 c1 c2 c3 : Int) (e0 e1 : ByteArray) :
  ∃ r : List Item × Int × Int, (r.1.length ≤ 100000 ∧ ∀ x ∈ r.1, Bytes x.f2) ∧ Ev (fun k => capture_records_read.f k b dir) r ∧ Ev (fun k => G9.f k b c0 c1 c2 c3 e0 e1 dir m wide) r := by
 have hp := c4a b hb (by omega)
 have hr := c05 b hb (by omega)
 obtain ⟨o1, o2⟩ := d32 b hb
 have o3 := c07 b hb
 unfold capture_records_read.f G9.f
 generalize a6w b = t at hp hr o1 o2 o3
 by_cases h2 : t.2.2.2.2.2.2 = 0
 ·have hz : t.2.2.2.2.2 = (0, 0) := o2.elim id (fun h => absurd h2 h); have h1 : t.2.2.2.2.2.1 = 0 := by rw [hz]
  have g1 : ¬ (!(t.2.2.2.2.2.1 == 0) || (!(t.2.2.2.2.2.2 == 0))) = true := by rw [h1, h2]; decide
  by_cases ho : capture_records_read.odd t.2.2.2.1 = true
  ·refine ⟨([], 20, 7), ⟨by simp, fun x hx => (by cases hx)⟩, ?_, ?_⟩
   ·refine Ev.bind hp ?_; refine Ev.congr (fun k => if_neg g1) ?_; refine Ev.congr (fun k => if_pos ho) ?_; exact Ev.now _
   ·refine Ev.bind hr ?_; refine Ev.congr (fun k => if_pos h2) ?_; refine Ev.congr (fun k => if_pos ho) ?_; exact Ev.now _
  ·have hq : ∀ r ∈ t.2.2.2.2.1, Bytes r.f3 ∧ r.f3.length < 140737488355328 := fun r hr2 => ⟨(o1 r hr2).1, by have := (o1 r hr2).2; omega⟩
   have hlen : ∀ (l : List S51) (out : List Item), (c1h dir t.2.2.2.1 l out).length ≤ out.length + l.length := by
    intro l
    induction l with
    | nil => intro out; exact Nat.le_refl _
    | cons x l ih =>
     intro out; have h3 := ih (a6W out (capture_records_read.of dir t.2.2.2.1 x.f3).1 (capture_records_read.of dir t.2.2.2.1 x.f3).2); have h4 := a8n out (capture_records_read.of dir t.2.2.2.1 x.f3).1 (capture_records_read.of dir t.2.2.2.1 x.f3).2; rw [c1h, List.length_cons]
     omega
   refine ⟨(c1h dir t.2.2.2.1 t.2.2.2.2.1 [], 0, 0), ?_, ?_, ?_⟩
   ·have := hlen t.2.2.2.2.1 []; rw [List.length_nil] at this; refine ⟨?_, b7Y dir _ _ [] hq (fun x hx => (by cases hx))⟩
    show (c1h dir t.2.2.2.1 t.2.2.2.2.1 []).length ≤ _
    omega
   ·refine Ev.bind hp ?_; refine Ev.congr (fun k => if_neg g1) ?_; refine Ev.congr (fun k => if_neg ho) ?_; exact Ev.bind (c4j dir _ _ [] hq (by rw [List.length_nil]; omega)) (Ev.now _)
   ·refine Ev.bind hr ?_; refine Ev.congr (fun k => if_pos h2) ?_; refine Ev.congr (fun k => if_neg ho) ?_; refine Ev.bind (c8p dir _ _ [] hq (by rw [List.length_nil]; omega)) ?_; rw [hz]; exact Ev.now _
 ·have g1 : (!(t.2.2.2.2.2.1 == 0) || (!(t.2.2.2.2.2.2 == 0))) = true := by
   have : (t.2.2.2.2.2.2 == 0) = false := by simpa using h2
   rw [this]; simp
  refine ⟨([], t.2.2.2.2.2.1, t.2.2.2.2.2.2), ⟨by simp, fun x hx => (by cases hx)⟩, ?_, ?_⟩
  ·refine Ev.bind hp ?_; refine Ev.congr (fun k => if_pos g1) ?_; exact Ev.now _
  ·refine Ev.bind hr ?_; refine Ev.congr (fun k => if_neg h2) ?_; exact Ev.now _
theorem b7Z (dir : Int) : ∀ (rows : List (List Int)) (out : List Item), (∀ b ∈ rows, Bytes b ∧ b.length < 140737488355328) → out.length + rows.length ≤ 3000000000000 → Ev (fun k => umpireref11_notes.each k dir rows out) (a9L dir rows out)
 | [], out, _, _ => Ev.now _
 | b :: t, out, h, hn => by
  obtain ⟨hb, hl⟩ := h b (by simp); rw [List.length_cons] at hn; have := a8n out dir b; exact Ev.bind (b5M out dir b hb hl (by omega)) (b7Z dir t (a6W out dir b) (fun y hy => h y (by simp [hy])) (by omega))
theorem b70 (m : Int) (wide : Bool) (h0 : 0 ≤ m) (h1 : m < 4294967296) (b : List Int) (hb : Bytes b) (hl : b.length ≤ 100000000) : Ev (fun k => X8.f k b m wide) (X6 m wide DF.init b).done :=
 Ev.bind (d2b m wide h0 h1 b hb hl) (Ev.now _)
theorem c4l (m : Int) (wide : Bool) (h0 : 0 ≤ m) (h1 : m < 4294967296) (dir : Int) (a b : List Int) (out : List Item) {α : Type} (H : Nat → List Int → List Item → Option α) (r : α) (ha : Bytes a) (hb : Bytes b) (hl : a.length + b.length ≤ 100000000) (ho : out.length + a.length + b.length ≤ 1000000000)
  (hr : Ev (fun k => H k (a ++ b) (a9L dir (X6 m wide (bare (X6 m wide DF.init a)) b).done out)) r) :
  Ev (fun k => (X8.f k a m wide).bind fun was => if a.length + b.length < 140737488355328 then (X8.f k (a ++ b) m wide).bind fun now => (umpireref11_notes.each k dir (now.drop was.length) out).bind fun o => H k (a ++ b) o else none) r := by
 refine Ev.bind (b70 m wide h0 h1 a ha (by omega)) ?_
 refine Ev.congr (fun k => if_pos (by omega)) ?_
 refine Ev.bind (b70 m wide h0 h1 (a ++ b) (ha.append hb) (by rw [List.length_append]; omega)) ?_
 obtain ⟨f1, f2⟩ := b3F m wide DF.init a b
 rw [f1, List.drop_left]
 have hh := a1Z m wide a DF.init ha Bytes.nil
 have hy := a8O m wide b (bare (X6 m wide DF.init a)) hb hh.1 (fun x hx => (by cases hx))
 have hk := a1Z m wide b (bare (X6 m wide DF.init a)) hb hh.1
 have e1 : (bare (X6 m wide DF.init a)).done.length = 0 := rfl
 exact Ev.bind (b7Z dir _ out (fun x hx => ⟨(hy x hx).1, by have := (hy x hx).2; omega⟩) (by have := hk.2.2; omega)) hr
theorem b2o (m : Int) (wide : Bool) (h0 : 0 ≤ m) (h1 : m < 4294967296) : ∀ (ns : List Note) (a c : List Int) (out : List Item), (∀ x ∈ ns, Bytes x.f2) → Bytes a → Bytes c → a.length + tot ns ≤ 100000000 → c.length + tot ns ≤ 100000000 → out.length + a.length + c.length + 2 * tot ns ≤ 1000000000 →
  Ev (fun k => umpireref11_notes.go k m wide ns a c out) (gov m wide ns (bare (X6 0 wide DF.init a)) (bare (X6 m wide DF.init c)) out)
 | [], a, c, out, _, _, _, _, _, _ => Ev.now _
 | x :: t, a, c, out, hn, ha, hc, hla, hlc, ho => by
  have hx := hn x (by simp); have ht : ∀ y ∈ t, Bytes y.f2 := fun y hy => hn y (by simp [hy])
  simp only [tot] at hla hlc ho
  have i0 : ∀ q : Int, bare (X6 q wide DF.init []) = DF.init := fun q => rfl
  unfold gov; unfold umpireref11_notes.go
  by_cases a3 : x.f0 = 3
  ·rw [if_neg (by omega), if_neg (by omega), if_pos a3]; refine Ev.congr (fun k => if_pos a3) ?_; have := b2o m wide h0 h1 t [] c out ht Bytes.nil hc (by rw [List.length_nil]; omega) (by omega) (by rw [List.length_nil]; omega); rw [i0] at this; exact this
  ·refine Ev.congr (fun k => if_neg a3) ?_
   by_cases a4 : x.f0 = 4
   ·rw [if_neg (by omega), if_neg (by omega), if_neg a3, if_pos a4]; refine Ev.congr (fun k => if_pos a4) ?_; have := b2o m wide h0 h1 t a [] out ht ha Bytes.nil (by omega) (by rw [List.length_nil]; omega) (by rw [List.length_nil]; omega); rw [i0] at this; exact this
   ·refine Ev.congr (fun k => if_neg a4) ?_
    by_cases a1 : x.f0 = 1
    ·rw [if_pos a1]; refine Ev.congr (fun k => if_pos a1) ?_; have hk := a1Z 0 wide x.f2 (bare (X6 0 wide DF.init a)) hx (a1Z 0 wide a DF.init ha Bytes.nil).1; have e1 : (bare (X6 0 wide DF.init a)).done.length = 0 := rfl; have hel := a7d 2 (X6 0 wide (bare (X6 0 wide DF.init a)) x.f2).done out; have ih := b2o m wide h0 h1 t (a ++ x.f2) c (a9L 2 (X6 0 wide (bare (X6 0 wide DF.init a)) x.f2).done out) ht (ha.append hx) hc (by rw [List.length_append]; omega) (by omega) (by rw [List.length_append]; have := hk.2.2; omega); rw [(b3F 0 wide DF.init a x.f2).2] at ih; exact c4l 0 wide (by decide) (by decide) 2 a x.f2 out (fun k s o => umpireref11_notes.go k m wide t s c o) _ ha hx (by omega) (by omega) ih
    ·rw [if_neg a1]; refine Ev.congr (fun k => if_neg a1) ?_
     by_cases a2 : x.f0 = 2
     ·rw [if_pos a2]; refine Ev.congr (fun k => if_pos a2) ?_; have hk := a1Z m wide x.f2 (bare (X6 m wide DF.init c)) hx (a1Z m wide c DF.init hc Bytes.nil).1; have e1 : (bare (X6 m wide DF.init c)).done.length = 0 := rfl; have hel := a7d 1 (X6 m wide (bare (X6 m wide DF.init c)) x.f2).done out; have ih := b2o m wide h0 h1 t a (c ++ x.f2) (a9L 1 (X6 m wide (bare (X6 m wide DF.init c)) x.f2).done out) ht ha (hc.append hx) (by omega) (by rw [List.length_append]; omega) (by rw [List.length_append]; have := hk.2.2; omega); rw [(b3F m wide DF.init c x.f2).2] at ih; exact c4l m wide h0 h1 1 c x.f2 out (fun k s o => umpireref11_notes.go k m wide t a s o) _ hc hx (by omega) (by omega) ih
     ·rw [if_neg a2, if_neg a3, if_neg a4]; refine Ev.congr (fun k => if_neg a2) ?_; exact b2o m wide h0 h1 t a c out ht ha hc (by omega) (by omega) (by omega)
theorem b2p (m : Int) (wide : Bool) : ∀ (ns : List Note) (s g : DF) (out : List Item), (∀ x ∈ ns, Bytes x.f2) → s.done = [] → g.done = [] → Bytes s.held → Bytes g.held → (gov m wide ns s g out).length ≤ out.length + tot ns
 | [], s, g, out, _, _, _, _, _ => by unfold gov; omega
 | x :: t, s, g, out, hn, hs, hg, hsb, hgb => by
  have hx := hn x (by simp); have ht : ∀ y ∈ t, Bytes y.f2 := fun y hy => hn y (by simp [hy])
  have ks := a1Z 0 wide x.f2 s hx hsb; have kg := a1Z m wide x.f2 g hx hgb; have es := a7d 2 (X6 0 wide s x.f2).done out; have eg := a7d 1 (X6 m wide g x.f2).done out; have zs : s.done.length = 0 := by rw [hs]; rfl
  have zg : g.done.length = 0 := by rw [hg]; rfl
  simp only [tot]
  unfold gov
  split
  ·have := b2p m wide t (bare (X6 0 wide s x.f2)) g (a9L 2 (X6 0 wide s x.f2).done out) ht rfl hg ks.1 hgb; have := ks.2.2
   omega
  ·split
   ·have := b2p m wide t s (bare (X6 m wide g x.f2)) (a9L 1 (X6 m wide g x.f2).done out) ht hs rfl hsb kg.1; have := kg.2.2
    omega
   ·split
    ·have := b2p m wide t DF.init g out ht rfl hg Bytes.nil hgb
     omega
    ·split
     ·have := b2p m wide t s DF.init out ht hs rfl hsb Bytes.nil
      omega
     ·have := b2p m wide t s g out ht hs hg hsb hgb
      omega
theorem c6x (b : List Int) (hb : Bytes b) (hl : b.length ≤ 4000) (dir m : Int) (wide : Bool) (h0 : 0 ≤ m) (h1 : m < 4294967296) (c0 c1 c2 c3 : Int) (e0 e1 : ByteArray) :
  ∃ r : List Item × Int × Int, (r.1.length ≤ 100000 ∧ ∀ x ∈ r.1, Bytes x.f2) ∧ Ev (fun k => capture_notes_read.f k b m wide) r ∧ Ev (fun k => umpireref11_notes.f k b c0 c1 c2 c3 e0 e1 dir m wide) r := by
 have hp := c6s b hb (by omega)
 have hr := c1e b hb (by omega)
 obtain ⟨o1, _, o3, _, o5⟩ := d16 b.length b 0 hb (Nat.le_refl _) (by omega)
 have e : a2q b.length b 0 = b2m b := rfl
 rw [e] at o1 o3 o5
 unfold capture_notes_read.f umpireref11_notes.f
 generalize b2m b = t at hp hr o1 o3 o5
 by_cases h2 : t.2.2 = 0
 ·have hz : t.2 = (0, 0) := o5.elim (fun h => h.1) (fun h => absurd h2 h.1); have ht1 : t.2.1 = 0 := by rw [hz]
  have g1 : ¬ (!(t.2.1 == 0) || (!(t.2.2 == 0))) = true := by rw [ht1, h2]; decide
  have i0 : ∀ q : Int, bare (X6 q wide DF.init []) = DF.init := fun q => rfl
  have hz2 : DF.init.held.length = 0 := rfl; have hb2 : ∀ x ∈ t.1, Bytes x.f2 := fun x hx => (o1 x hx).1.2.2
  have hn := b2o m wide h0 h1 t.1 [] [] [] hb2 Bytes.nil Bytes.nil (by rw [List.length_nil]; omega) (by rw [List.length_nil]; omega) (by simp only [List.length_nil]; omega); rw [i0, i0] at hn; have hg := b2n m wide h0 h1 t.1 DF.init DF.init [] hb2 rfl rfl Bytes.nil Bytes.nil (by omega) (by omega) (by rw [List.length_nil]; omega); have hlen := b2p m wide t.1 DF.init DF.init [] hb2 rfl rfl Bytes.nil Bytes.nil; refine ⟨(gov m wide t.1 DF.init DF.init [], 0, 0), ?_, ?_, ?_⟩
  ·rw [List.length_nil] at hlen; refine ⟨?_, a8o m wide t.1 DF.init DF.init [] hb2 rfl rfl Bytes.nil Bytes.nil (fun x hx => (by cases hx))⟩
   show (gov m wide t.1 DF.init DF.init []).length ≤ _
   omega
  ·refine Ev.bind hp ?_; refine Ev.congr (fun k => if_neg g1) ?_; exact Ev.bind hg (Ev.now _)
  ·refine Ev.bind hr ?_; refine Ev.congr (fun k => if_pos h2) ?_; refine Ev.bind hn ?_; rw [hz]; exact Ev.now _
 ·have g1 : (!(t.2.1 == 0) || (!(t.2.2 == 0))) = true := by
   have : (t.2.2 == 0) = false := by simpa using h2
   rw [this]; simp
  refine ⟨([], t.2.1, t.2.2), ⟨by simp, fun x hx => (by cases hx)⟩, ?_, ?_⟩
  ·refine Ev.bind hp ?_; refine Ev.congr (fun k => if_pos g1) ?_; exact Ev.now _
  ·refine Ev.bind hr ?_; refine Ev.congr (fun k => if_neg h2) ?_; exact Ev.now _
theorem c54 (b : List Int) (hb : Bytes b) (hl : b.length ≤ 4000) (form : Int) (dir m : Int) (wide : Bool) (h0 : 0 ≤ m) (h1 : m < 4294967296) (c0 c1 c2 c3 : Int) (e0 e1 : ByteArray) :
  ∃ r : List Item × Int × Int, (r.1.length ≤ 100000 ∧ ∀ x ∈ r.1, Bytes x.f2) ∧ Ev (fun k => a0F.f k b form c0 c1 c2 c3 e0 e1 dir m wide) r ∧ Ev (fun k => a2r.f k b form c0 c1 c2 c3 e0 e1 dir m wide) r := by
 unfold a0F.f a2r.f
 by_cases f1 : form = 1
 ·obtain ⟨r, r1, r2, r3⟩ := c1i b hb hl dir m wide c0 c1 c2 c3 e0 e1; refine ⟨r, r1, Ev.congr (fun k => if_pos f1) r2, Ev.congr (fun k => if_pos f1) ?_⟩; exact Ev.bind r3 (Ev.now _)
 ·by_cases f2 : form = 2
  ·obtain ⟨r, r1, r2, r3⟩ := c6x b hb hl dir m wide h0 h1 c0 c1 c2 c3 e0 e1; refine ⟨r, r1, Ev.congr (fun k => if_neg f1) (Ev.congr (fun k => if_pos f2) r2), Ev.congr (fun k => if_neg f1) (Ev.congr (fun k => if_pos f2) ?_)⟩; exact Ev.bind r3 (Ev.now _)
  ·exact ⟨([], 0, 7), ⟨by simp, fun x hx => (by cases hx)⟩, Ev.congr (fun k => if_neg f1) (Ev.congr (fun k => if_neg f2) (Ev.now _)), Ev.congr (fun k => if_neg f1) (Ev.congr (fun k => if_neg f2) (Ev.now _))⟩
theorem d8A (l : List Item) (hl : l.length < 4611686018427387904) : Ev (fun k => L6.f k l l) true := c6u l hl
theorem d8z {x : Int} (h : (Lit.int .u32 x).wf = true) : 0 ≤ x ∧ x < 4294967296 := d8R h
theorem d3x {l : List Int} (h : ∀ x ∈ l, (Lit.int .u8 x).wf = true) : Bytes l := d8S h
end Go.Proofs.YtgnonglkibhnhaaDoor.Q
