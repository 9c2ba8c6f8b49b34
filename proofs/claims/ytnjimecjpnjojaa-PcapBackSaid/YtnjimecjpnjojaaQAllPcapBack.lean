/- The plain texts that the law PcapBack reaches, one behind the other. -/
import Derived.Test.Ytnjimecjpnjojaa0
import Derived.Test.YtnjimecjpnjojaaF59
import Derived.Test.YtnjimecjpnjojaaF67
import Derived.Test.YtnjimecjpnjojaaF50
import Derived.Test.YtnjimecjpnjojaaF49
import Derived.Test.YtnjimecjpnjojaaF51
import Derived.Test.YtnjimecjpnjojaaF68
import Derived.Test.YtnjimecjpnjojaaF52
import Derived.Test.YtnjimecjpnjojaaF24
import Derived.Test.YtnjimecjpnjojaaF25
import Derived.Test.YtnjimecjpnjojaaF21
import Derived.Test.YtnjimecjpnjojaaF19
import Derived.Test.YtnjimecjpnjojaaF62
import Derived.Test.YtnjimecjpnjojaaF45
import Derived.Test.YtnjimecjpnjojaaF47
import Derived.Test.YtnjimecjpnjojaaF17
import Derived.Test.YtnjimecjpnjojaaF18
import Derived.Test.YtnjimecjpnjojaaF23
import Derived.Test.YtnjimecjpnjojaaF22
import Derived.Test.YtnjimecjpnjojaaF20
import Derived.Test.YtnjimecjpnjojaaF16
import Derived.Test.YtnjimecjpnjojaaF15
import Derived.Deep.Slices
import Derived.ChangeSlices
import Derived.SizedLaws
/- Plain lemmas on numbers, bits and lists. -/
namespace Go.Proofs.Ytnjimecjpnjojaa.Q
open Go.RowKit Go.Proofs.YtnjimecjpnjojaaW.PrintWords Go.Proofs.YtnjimecjpnjojaaW.PrintLast Go.Proofs.YtnjimecjpnjojaaW.PrintMore

/-! ### ranges -/
theorem wf_u8 {x : Int} (h : (Lit.int .u8 x).wf = true) : 0 ≤ x ∧ x < 256 := by
  simp [Lit.wf, IntKind.min, IntKind.max, IntKind.bits, IntKind.signed] at h; omega
theorem wf_u16 {x : Int} (h : (Lit.int .u16 x).wf = true) : 0 ≤ x ∧ x < 65536 := by
  simp [Lit.wf, IntKind.min, IntKind.max, IntKind.bits, IntKind.signed] at h; omega
theorem wf_u32 {x : Int} (h : (Lit.int .u32 x).wf = true) : 0 ≤ x ∧ x < 4294967296 := by
  simp [Lit.wf, IntKind.min, IntKind.max, IntKind.bits, IntKind.signed] at h; omega
theorem wf_u64 {x : Int} (h : (Lit.int .u64 x).wf = true) : 0 ≤ x ∧ x < 18446744073709551616 := by
  simp [Lit.wf, IntKind.min, IntKind.max, IntKind.bits, IntKind.signed] at h; omega
theorem wf_i64 {x : Int} (h : (Lit.int .i64 x).wf = true) : -9223372036854775808 ≤ x ∧ x ≤ 9223372036854775807 := by
  simp [Lit.wf, IntKind.min, IntKind.max, IntKind.bits, IntKind.signed] at h; omega
/-- All are bytes. -/
def Bytes (l : List Int) : Prop := ∀ x ∈ l, 0 ≤ x ∧ x < 256
theorem bytes_wf {l : List Int} (h : ∀ x ∈ l, (Lit.int .u8 x).wf = true) : Bytes l := fun x hx => wf_u8 (h x hx)
theorem Bytes.nil : Bytes [] := fun _ h => by cases h
theorem Bytes.cons {x : Int} {l : List Int} (hx : 0 ≤ x ∧ x < 256) (h : Bytes l) : Bytes (x :: l) := by
  intro y hy
  rcases List.mem_cons.1 hy with rfl | hy
  · exact hx
  · exact h y hy
theorem Bytes.append {a b : List Int} (ha : Bytes a) (hb : Bytes b) : Bytes (a ++ b) := fun x hx => (List.mem_append.1 hx).elim (ha x) (hb x)
theorem Bytes.left {a b : List Int} (h : Bytes (a ++ b)) : Bytes a := fun x hx => h x (List.mem_append_left _ hx)
theorem Bytes.right {a b : List Int} (h : Bytes (a ++ b)) : Bytes b := fun x hx => h x (List.mem_append_right _ hx)
theorem Bytes.take {a : List Int} (n : Nat) (h : Bytes a) : Bytes (a.take n) := fun x hx => h x (List.mem_of_mem_take hx)
theorem Bytes.drop {a : List Int} (n : Nat) (h : Bytes a) : Bytes (a.drop n) := fun x hx => h x (List.mem_of_mem_drop hx)
theorem Bytes.reverse {a : List Int} (h : Bytes a) : Bytes a.reverse := fun x hx => h x (List.mem_reverse.1 hx)
theorem Bytes.at {a : List Int} (h : Bytes a) (i : Int) : 0 ≤ rd a i ∧ rd a i < 256 := by
  unfold rd
  rw [List.getD_eq_getElem?_getD]
  rcases Nat.lt_or_ge i.toNat a.length with hi | hi
  · rw [List.getElem?_eq_getElem hi]
    exact h _ (List.getElem_mem hi)
  · rw [List.getElem?_eq_none hi]
    exact ⟨by decide, by decide⟩
theorem Bytes.get {a : List Int} (h : Bytes a) (i : Nat) (hi : i < a.length) : 0 ≤ a[i] ∧ a[i] < 256 := h _ (List.getElem_mem hi)
theorem rd_get {a : List Int} (i : Nat) (hi : i < a.length) : rd a (i : Int) = a[i] := by
  unfold rd
  rw [Int.toNat_natCast, List.getD_eq_getElem?_getD, List.getElem?_eq_getElem hi]
  rfl

/-! ### wraps -/
theorem w64 {x : Int} (h0 : -9223372036854775808 ≤ x) (h1 : x ≤ 9223372036854775807) : wrap64 x = x := by unfold wrap64; omega
theorem wu64 (x : Int) : IntKind.u64.wrap x = x % 18446744073709551616 := by simp [IntKind.wrap, IntKind.bits, IntKind.signed]
theorem wu64s {x : Int} (h0 : 0 ≤ x) (h1 : x < 18446744073709551616) : IntKind.u64.wrap x = x := by rw [wu64]; omega
theorem wu32 (x : Int) : IntKind.u32.wrap x = x % 4294967296 := by simp [IntKind.wrap, IntKind.bits, IntKind.signed]
theorem wu32s {x : Int} (h0 : 0 ≤ x) (h1 : x < 4294967296) : IntKind.u32.wrap x = x := by rw [wu32]; omega

/-! ### bits -/
theorem bits_u64_and {a b : Nat} (ha : a < 18446744073709551616) (hb : b < 18446744073709551616) : Go.bits .and .u64 (a : Int) (b : Int) = ((a &&& b : Nat) : Int) :=
  (bits_nat .u64 64 (by decide) (fun n h0 h1 => wu64s h0 (by simpa using h1)) a b (by simpa using ha) (by simpa using hb)).1
theorem bits_u64_or {a b : Nat} (ha : a < 18446744073709551616) (hb : b < 18446744073709551616) : Go.bits .or .u64 (a : Int) (b : Int) = ((a ||| b : Nat) : Int) :=
  (bits_nat .u64 64 (by decide) (fun n h0 h1 => wu64s h0 (by simpa using h1)) a b (by simpa using ha) (by simpa using hb)).2
theorem bits_u32_and {a b : Nat} (ha : a < 4294967296) (hb : b < 4294967296) : Go.bits .and .u32 (a : Int) (b : Int) = ((a &&& b : Nat) : Int) :=
  (bits_nat .u32 32 (by decide) (fun n h0 h1 => wu32s h0 (by simpa using h1)) a b (by simpa using ha) (by simpa using hb)).1
theorem bits_u32_or {a b : Nat} (ha : a < 4294967296) (hb : b < 4294967296) : Go.bits .or .u32 (a : Int) (b : Int) = ((a ||| b : Nat) : Int) :=
  (bits_nat .u32 32 (by decide) (fun n h0 h1 => wu32s h0 (by simpa using h1)) a b (by simpa using ha) (by simpa using hb)).2
theorem u64_or_low {x y : Int} {i : Nat} (hx0 : 0 ≤ x) (hx : x % 2 ^ i = 0) (hx1 : x < 18446744073709551616) (hy0 : 0 ≤ y) (hy : y < 2 ^ i) (hy1 : y < 18446744073709551616) : Go.bits .or .u64 x y = x + y :=
  bits_join .u64 64 (by decide) (fun n h0 h1 => wu64s h0 (by simpa using h1)) i x y hx0 hx (by simpa using hx1) hy0 hy (by simpa using hy1)
theorem u32_low {x : Int} (h0 : 0 ≤ x) (h1 : x < 4294967296) : Go.bits .and .u32 x 1 = x % 2 := by
  have := bits_mask .u32 32 (by decide) (fun n h0 h1 => wu32s h0 (by simpa using h1)) 1 (by decide) x h0 (by simpa using h1)
  simpa using this

/-! ### strings of bytes -/
theorem strOf_list (l : List Int) : (strOfNums l).toList = l.map fun n => UInt8.ofNat n.toNat := by
  rw [ByteArray.toList_eq, strOfNums_data]
theorem strOf_length (l : List Int) : (strOfNums l).toList.length = l.length := by rw [strOf_list, List.length_map]
theorem byte_inj {x y : Int} (hx : 0 ≤ x ∧ x < 256) (hy : 0 ≤ y ∧ y < 256) (h : UInt8.ofNat x.toNat = UInt8.ofNat y.toNat) : x = y := by
  have := congrArg UInt8.toNat h
  simp only [UInt8.toNat_ofNat'] at this
  omega
theorem strOf_inj {a b : List Int} (ha : Bytes a) (hb : Bytes b) (h : (strOfNums a).toList = (strOfNums b).toList) : a = b := by
  rw [strOf_list, strOf_list] at h
  induction a generalizing b with
  | nil =>
    cases b with
    | nil => rfl
    | cons y b => simp at h
  | cons x a ih =>
    cases b with
    | nil => simp at h
    | cons y b =>
      simp only [List.map_cons, List.cons.injEq] at h
      obtain rfl := byte_inj (ha x (by simp)) (hb y (by simp)) h.1
      rw [ih (fun z hz => ha z (List.mem_cons_of_mem _ hz)) (fun z hz => hb z (List.mem_cons_of_mem _ hz)) h.2]
theorem strOf_iff {a b : List Int} (ha : Bytes a) (hb : Bytes b) : ((strOfNums a).toList = (strOfNums b).toList) ↔ a = b := ⟨strOf_inj ha hb, fun h => by rw [h]⟩
theorem strOf_beq {a b : List Int} (ha : Bytes a) (hb : Bytes b) : ((strOfNums a).toList == (strOfNums b).toList) = (a == b) := by
  rw [Bool.eq_iff_iff, beq_iff_eq, beq_iff_eq, strOf_iff ha hb]

/-! ### rounds -/
theorem Ev.at {α : Type} {g : Nat → Option α} {r : α} {K : Nat} (h : ∀ k, K ≤ k → g k = some r) : Ev g r := ⟨K, h⟩
theorem Ev.const {α : Type} {g : Option α} {r : α} (h : g = some r) : Ev (fun _ => g) r := ⟨0, fun _ _ => h⟩
theorem succ_of {k n : Nat} (h : n < k) : ∃ m, k = m + 1 ∧ n ≤ m := ⟨k - 1, by omega, by omega⟩
theorem Ev.eq {α : Type} {g : Nat → Option α} {a b : α} (h1 : Ev g a) (h2 : Ev g b) : a = b := by
  obtain ⟨K, h1⟩ := h1
  obtain ⟨K', h2⟩ := h2
  have a1 := h1 (max K K') (by omega)
  have a2 := h2 (max K K') (by omega)
  rw [a1] at a2
  exact Option.some.inj a2

/-! ### numbers as bytes -/
/-- A number's s bytes, the lowest first. -/
def leb (n : Int) : Nat → List Int
  | 0 => []
  | s + 1 => n % 256 :: leb (n / 256) s
theorem leb_length (n : Int) (s : Nat) : (leb n s).length = s := by
  induction s generalizing n with
  | zero => rfl
  | succ s ih => simp [leb, ih]
theorem leb_bytes (n : Int) (s : Nat) : Bytes (leb n s) := by
  induction s generalizing n with
  | zero => exact Bytes.nil
  | succ s ih => exact Bytes.cons (by omega) (ih _)
theorem leb_get (n : Int) (s i : Nat) (h : i < (leb n s).length) : (leb n s)[i] = n / 256 ^ i % 256 := by
  induction s generalizing n i with
  | zero => simp [leb] at h
  | succ s ih =>
    cases i with
    | zero => simp [leb]
    | succ i =>
      simp only [leb, List.getElem_cons_succ]
      rw [ih, Int.pow_succ, Int.mul_comm, Int.ediv_ediv_of_nonneg (by decide)]
theorem leb_snoc (n : Int) (s : Nat) : leb n (s + 1) = leb n s ++ [n / 256 ^ s % 256] := by
  apply List.ext_getElem
  · simp [leb_length]
  · intro i h1 h2
    rw [leb_get]
    rw [leb_length] at h1
    rcases Nat.lt_or_ge i s with hi | hi
    · rw [List.getElem_append_left (by rw [leb_length]; exact hi), leb_get]
    · obtain rfl : i = s := by omega
      rw [List.getElem_append_right (by rw [leb_length]; exact Nat.le_refl _)]
      simp [leb_length]
/-- The number whose bytes these are, the highest first. -/
def beval (l : List Int) : Int := l.foldl (fun a b => a * 256 + b) 0
theorem beval_snoc (l : List Int) (x : Int) : beval (l ++ [x]) = beval l * 256 + x := by simp [beval]
theorem beval_nil : beval [] = 0 := rfl
theorem beval_range (l : List Int) (h : Bytes l) : 0 ≤ beval l ∧ beval l < 256 ^ l.length := by
  suffices ∀ r : List Int, Bytes r.reverse → 0 ≤ beval r.reverse ∧ beval r.reverse < 256 ^ r.length by
    have := this l.reverse (by rwa [List.reverse_reverse])
    rwa [List.reverse_reverse, List.length_reverse] at this
  intro r
  induction r with
  | nil => intro _; exact ⟨by decide, by decide⟩
  | cons x r ih =>
    intro hb
    rw [List.reverse_cons] at hb ⊢
    have h1 := ih hb.left
    have h2 := hb.right x (by simp)
    rw [beval_snoc, List.length_cons, Int.pow_succ]
    exact ⟨by omega, by omega⟩
theorem leb_beval (l : List Int) (h : Bytes l) : leb (beval l) l.length = l.reverse := by
  suffices ∀ r : List Int, Bytes r.reverse → leb (beval r.reverse) r.length = r by
    have := this l.reverse (by rwa [List.reverse_reverse])
    rwa [List.reverse_reverse, List.length_reverse] at this
  intro r
  induction r with
  | nil => intro _; rfl
  | cons x r ih =>
    intro hb
    rw [List.reverse_cons] at hb ⊢
    have h2 := hb.right x (by simp)
    rw [beval_snoc, List.length_cons, leb]
    rw [show (beval r.reverse * 256 + x) % 256 = x by omega, show (beval r.reverse * 256 + x) / 256 = beval r.reverse by omega, ih hb.left]
theorem beval_leb (n : Int) (s : Nat) (h0 : 0 ≤ n) (h1 : n < 256 ^ s) : beval (leb n s).reverse = n := by
  induction s generalizing n with
  | zero => simp at h1; simp [leb, beval]; omega
  | succ s ih =>
    rw [leb, List.reverse_cons, beval_snoc, ih (n / 256) (by omega) (by rw [Int.pow_succ] at h1; omega)]
    omega
/-- A number's bytes, in either order. -/
def putb (n : Int) (s : Nat) (big : Bool) : List Int := if big then (leb n s).reverse else leb n s
theorem putb_length (n : Int) (s : Nat) (big : Bool) : (putb n s big).length = s := by
  unfold putb; split <;> simp [leb_length]
theorem putb_bytes (n : Int) (s : Nat) (big : Bool) : Bytes (putb n s big) := by
  unfold putb; split
  · exact (leb_bytes n s).reverse
  · exact leb_bytes n s
/-- Bytes' number, in either order. -/
def getv (l : List Int) (big : Bool) : Int := beval (if big then l else l.reverse)
theorem getv_putb (n : Int) (s : Nat) (big : Bool) (h0 : 0 ≤ n) (h1 : n < 256 ^ s) : getv (putb n s big) big = n := by
  unfold getv putb
  cases big <;> simp [beval_leb n s h0 h1]
theorem putb_getv (l : List Int) (big : Bool) (h : Bytes l) : putb (getv l big) l.length big = l := by
  unfold getv putb
  cases big
  · have := leb_beval l.reverse h.reverse
    simpa using this
  · have := leb_beval l h
    simp [this]
theorem getv_range (l : List Int) (big : Bool) (h : Bytes l) : 0 ≤ getv l big ∧ getv l big < 256 ^ l.length := by
  unfold getv
  cases big
  · have := beval_range l.reverse h.reverse
    simpa using this
  · simpa using beval_range l h
theorem pow256_le {i j : Nat} (h : i ≤ j) : (256 : Int) ^ i ≤ 256 ^ j := by
  have h1 : ∀ k : Nat, (256 : Int) ^ k = ((256 ^ k : Nat) : Int) := fun k => (Int.natCast_pow 256 k).symm
  rw [h1, h1]
  exact Int.ofNat_le.2 (Nat.pow_le_pow_right (by decide) h)
theorem pow256_8 : (256 : Int) ^ 8 = 18446744073709551616 := by decide
theorem pow256_2 (i : Nat) : (256 : Int) ^ i = 2 ^ (8 * i) := by
  rw [show (256 : Int) = 2 ^ 8 from rfl, ← Int.pow_mul]
end Go.Proofs.Ytnjimecjpnjojaa.Q

/- The functions of octet and of its reference, told by lists. -/
namespace Go.Proofs.Ytnjimecjpnjojaa.Q
open Go.RowKit Go.Proofs.Ytnjimecjpnjojaa.Print Go.Proofs.YtnjimecjpnjojaaW.PrintWords Go.Proofs.YtnjimecjpnjojaaW.PrintLast Go.Proofs.YtnjimecjpnjojaaW.PrintMore

set_option linter.unusedVariables false
set_option linter.unusedSimpArgs false
theorem div_zero {n p : Int} (h0 : 0 ≤ n) (hp : 0 < p) : n / p = 0 ↔ n < p := by
  constructor
  · intro h
    have h1 := Int.mul_ediv_add_emod n p
    have h2 := Int.emod_lt_of_pos n hp
    rw [h, Int.mul_zero] at h1
    omega
  · intro h
    exact Int.ediv_eq_zero_of_lt h0 h

/-! ### Fits -/
def fits (n : Int) (s : Int) : Bool := decide (1 ≤ s) && decide (s ≤ 8) && decide (n < 256 ^ s.toNat)
theorem fits_spec (n s : Int) (h0 : 0 ≤ n) (h1 : n < 18446744073709551616) : octet_Fits.f n s = some (fits n s) := by
  unfold octet_Fits.f fits
  by_cases a : 1 ≤ s
  · rw [if_pos a]
    by_cases b : s ≤ 8
    · rw [if_pos b]
      by_cases c : s = 8
      · subst c
        rw [if_pos rfl]
        simp [pow256_8, h1]
      · rw [if_neg c, w64 (by omega) (by omega), if_pos (by omega)]
        have hs : shr .u64 n (8 * s) = n / 256 ^ s.toNat := by
          unfold shr
          rw [Nat.min_eq_left (by simp [IntKind.bits]; omega), pow256_2, show (8 * s).toNat = 8 * s.toNat by omega]
        rw [hs]
        have hp : (0 : Int) < 256 ^ s.toNat := Int.pow_pos (by decide)
        have : (n / 256 ^ s.toNat == 0) = decide (n < 256 ^ s.toNat) := by
          rw [Bool.eq_iff_iff, beq_iff_eq, decide_eq_true_iff]
          exact div_zero h0 hp
        simp [this, a, b]
    · rw [if_neg b]
      simp [b]
  · rw [if_neg a]
    simp [a]

/-! ### Reverse -/
theorem rev_loop (x : List Int) (hm : x.length ≤ 4611686018427387904) (d : Nat) : ∀ (y : List Int) (i : Nat) (k : Nat), y.length = x.length → 2 * i ≤ x.length → x.length + 1 - 2 * i ≤ d → d < k →
    (∀ p, (hp : p < x.length) → (hq : p < y.length) → y[p] = if p < i ∨ x.length - i ≤ p then x[x.length - 1 - p]'(by omega) else x[p]) →
    slices_Reverse_byte_byte.l0 k y (i : Int) ((x.length : Int) - 1 - i) = some x.reverse := by
  induction d with
  | zero => intro y i k hl hi hd hk h; omega
  | succ d ih =>
    intro y i k hl hi hd hk h
    obtain ⟨k, rfl, hk⟩ := succ_of hk
    rw [slices_Reverse_byte_byte.l0]
    by_cases c : (i : Int) < (x.length : Int) - 1 - i
    · rw [if_pos c, if_pos (by omega), if_pos (by omega), if_pos (by omega), if_pos (by omega)]
      rw [show ((x.length : Int) - 1 - (i : Int)) = ((x.length - 1 - i : Nat) : Int) by omega]
      rw [rd_get (a := y) (x.length - 1 - i) (by omega), rd_get (a := y) i (by omega), Int.toNat_natCast, Int.toNat_natCast]
      rw [w64 (by omega) (by omega), w64 (by omega) (by omega)]
      have := ih ((y.set i (y[x.length - 1 - i]'(by omega))).set (x.length - 1 - i) (y[i]'(by omega))) (i + 1) k (by simp [hl]) (by omega) (by omega) (by omega) (by
        intro p hp hq
        have hi1 := h i (by omega) (by omega)
        have hj1 := h (x.length - 1 - i) (by omega) (by omega)
        have hp1 := h p hp (by omega)
        simp only [List.getElem_set]
        by_cases e1 : x.length - 1 - i = p
        · subst e1
          simp only [if_true]
          rw [hi1, if_neg (by omega), if_pos (by omega)]
          congr 1
          omega
        · rw [if_neg e1]
          by_cases e2 : i = p
          · subst e2
            simp only [if_true]
            rw [hj1, if_neg (by omega), if_pos (by omega)]
          · rw [if_neg e2, hp1]
            by_cases e3 : p < i ∨ x.length - i ≤ p
            · rw [if_pos e3, if_pos (by omega)]
            · rw [if_neg e3, if_neg (by omega)])
      rw [show ((i : Int) + 1) = ((i + 1 : Nat) : Int) by omega, show (((x.length - 1 - i : Nat) : Int) - 1) = (x.length : Int) - 1 - ((i + 1 : Nat) : Int) by omega]
      exact this
    · rw [if_neg c]
      congr 1
      apply List.ext_getElem
      · simp [hl]
      · intro p hp hq
        simp only [List.length_reverse] at hq
        rw [List.getElem_reverse, h p (by omega) hp]
        by_cases e : p < i ∨ x.length - i ≤ p
        · rw [if_pos e]
        · rw [if_neg e]
          congr 1
          omega
theorem reverse_spec (x : List Int) (hm : x.length ≤ 4611686018427387904) : Ev (fun k => slices_Reverse_byte_byte.f k x) x.reverse := by
  refine ⟨x.length + 3, fun k hk => ?_⟩
  show slices_Reverse_byte_byte.f k x = _
  unfold slices_Reverse_byte_byte.f
  rw [w64 (by omega) (by omega)]
  have := rev_loop x hm (x.length + 2) x 0 k rfl (by omega) (by omega) (by omega) (by
    intro p hp hq
    rw [if_neg (by omega)])
  simpa using this

/-! ### Put -/
theorem put_loop (n : Int) (h0 : 0 ≤ n) (s : Nat) (hs : s ≤ 8) (big : Bool) (d : Nat) : ∀ (i : Nat) (y : List Int), s - i = d → i ≤ s → y = leb n i ++ List.replicate (s - i) 0 →
    Ev (fun k => octet_Put.l0 k n big y (s : Int) (i : Int)) (putb n s big, true) := by
  induction d with
  | zero =>
    intro i y hd hi hy
    obtain rfl : i = s := by omega
    rw [Nat.sub_self, List.replicate_zero, List.append_nil] at hy
    subst hy
    refine Ev.step (f := fun k => if big = true then ((slices_Reverse_byte_byte.f k (leb n i)).bind fun t => (some (t, true))) else (some (leb n i, true))) (fun k => ?_) ?_
    · rw [octet_Put.l0, if_neg (by omega)]
    · unfold putb
      cases big
      · exact Ev.const rfl
      · simp only [if_true]
        exact Ev.bind (reverse_spec _ (by rw [leb_length]; omega)) (Ev.now _)
  | succ d ih =>
    intro i y hd hi hy
    have hlen : y.length = s := by
      subst hy
      simp [leb_length]
      omega
    refine Ev.step (f := fun k => octet_Put.l0 k n big (leb n (i + 1) ++ List.replicate (s - (i + 1)) 0) (s : Int) ((i + 1 : Nat) : Int)) (fun k => ?_) (ih (i + 1) _ (by omega) (by omega) rfl)
    rw [octet_Put.l0, if_pos (by omega), w64 (by omega) (by omega), if_pos (by omega), if_pos (by omega), if_pos (by omega), w64 (by omega) (by omega), Int.toNat_natCast]
    have hsh : shr .u64 n (8 * (i : Int)) = n / 256 ^ i := by
      unfold shr
      rw [Nat.min_eq_left (by simp [IntKind.bits]; omega), pow256_2, show (8 * (i : Int)).toNat = 8 * i by omega]
    have : y.set i (shr .u64 n (8 * (i : Int)) % 256) = leb n (i + 1) ++ List.replicate (s - (i + 1)) 0 := by
      rw [hsh, hy, leb_snoc, show s - i = (s - (i + 1)) + 1 by omega, List.replicate_succ, List.set_append_right _ _ (by rw [leb_length]; exact Nat.le_refl _)]
      simp [leb_length]
    rw [this]
    rfl
theorem put_spec (n s : Int) (big : Bool) (h0 : 0 ≤ n) (h1 : n < 18446744073709551616) : Ev (fun k => octet_Put.f k n s big) (if fits n s then (putb n s.toNat big, true) else ([], false)) := by
  unfold octet_Put.f
  rw [fits_spec n s h0 h1]
  simp only [Option.bind_some]
  by_cases c : fits n s = true
  · simp only [c, if_true]
    have hf : 1 ≤ s ∧ s ≤ 8 := by
      unfold fits at c
      simp only [Bool.and_eq_true, decide_eq_true_eq] at c
      exact c.1
    simp only [show (0 : Int) ≤ s by omega, show s.toNat ≤ 281474976710656 by omega, if_true]
    have := put_loop n h0 s.toNat (by omega) big s.toNat 0 (List.replicate s.toNat 0) (by omega) (by omega) (by simp [leb])
    rw [show ((s.toNat : Nat) : Int) = s by omega] at this
    exact this
  · simp only [c, if_false]
    exact Ev.const rfl

/-! ### Get -/
theorem or_step (v b : Int) (h0 : 0 ≤ v) (h1 : v < 72057594037927936) (hb : 0 ≤ b ∧ b < 256) : Go.bits .or .u64 (IntKind.u64.wrap (v * 256)) (IntKind.u64.wrap b) = v * 256 + b := by
  rw [wu64s (by omega) (by omega), wu64s (by omega) (by omega)]
  exact u64_or_low (i := 8) (by omega) (by omega) (by omega) (by omega) (by omega) (by omega)
theorem get_loop (x : List Int) (hb : Bytes x) (hl : x.length ≤ 8) (big : Bool) (d : Nat) : ∀ i : Nat, x.length - i = d → i ≤ x.length →
    Ev (fun k => octet_Get.l0 k x big (beval ((if big then x else x.reverse).take i)) (x.length : Int) (i : Int)) (getv x big, true) := by
  induction d with
  | zero =>
    intro i hd hi
    obtain rfl : i = x.length := by omega
    refine Ev.step (f := fun _ => some (getv x big, true)) (fun k => ?_) (Ev.now _)
    rw [octet_Get.l0, if_neg (by omega)]
    unfold getv
    cases big <;> simp [List.take_of_length_le]
  | succ d ih =>
    intro i hd hi
    refine Ev.step (f := fun k => octet_Get.l0 k x big (beval ((if big then x else x.reverse).take (i + 1))) (x.length : Int) ((i + 1 : Nat) : Int)) (fun k => ?_) (ih (i + 1) (by omega) (by omega))
    have hr : 0 ≤ beval ((if big then x else x.reverse).take i) ∧ beval ((if big then x else x.reverse).take i) < 72057594037927936 := by
      have hbb : Bytes ((if big then x else x.reverse).take i) := by
        cases big
        · exact hb.reverse.take i
        · exact hb.take i
      have := beval_range _ hbb
      have h2 := pow256_le (i := ((if big then x else x.reverse).take i).length) (j := 7) (by rw [List.length_take]; omega)
      rw [show (256 : Int) ^ 7 = 72057594037927936 from by decide] at h2
      exact ⟨this.1, Int.lt_of_lt_of_le this.2 h2⟩
    rw [octet_Get.l0, if_pos (by omega), w64 (x := (x.length : Int) - 1) (by omega) (by omega), w64 (x := (x.length : Int) - 1 - (i : Int)) (by omega) (by omega), if_pos (by omega), if_pos (by omega)]
    cases big
    · simp only [Bool.false_eq_true, if_false] at hr ⊢
      rw [or_step _ _ hr.1 hr.2 (hb.at _), w64 (by omega) (by omega)]
      rw [List.take_succ_eq_append_getElem (by simp; omega), beval_snoc, List.getElem_reverse]
      rw [show ((x.length : Int) - 1 - (i : Int)) = ((x.length - 1 - i : Nat) : Int) by omega, rd_get (a := x) (x.length - 1 - i) (by omega)]
      rfl
    · simp only [if_true] at hr ⊢
      rw [if_pos (by omega), if_pos (by omega), or_step _ _ hr.1 hr.2 (hb.at _), w64 (by omega) (by omega)]
      rw [List.take_succ_eq_append_getElem (by omega), beval_snoc, rd_get (a := x) i (by omega)]
      rfl
theorem get_spec (x : List Int) (hb : Bytes x) (big : Bool) : Ev (fun k => octet_Get.f k x big) (if 1 ≤ x.length ∧ x.length ≤ 8 then (getv x big, true) else (0, false)) := by
  unfold octet_Get.f
  by_cases a : (x.length : Int) < 1
  · simp only [a, if_true]
    rw [if_neg (by omega)]
    refine Ev.step (f := fun _ => some (0, false)) (fun k => ?_) (Ev.now _)
    rw [octet_Get.j0, if_pos rfl]
  · simp only [a, if_false]
    by_cases b : (x.length : Int) > 8
    · rw [if_neg (by omega)]
      refine Ev.step (f := fun _ => some (0, false)) (fun k => ?_) (Ev.now _)
      rw [octet_Get.j0, if_pos (by simpa using b)]
    · rw [if_pos (by omega)]
      refine Ev.step (f := fun k => octet_Get.l0 k x big 0 (x.length : Int) 0) (fun k => ?_) ?_
      · rw [octet_Get.j0, if_neg (by simpa using b)]
      · have := get_loop x hb (by omega) big x.length 0 (by omega) (by omega)
        simpa [beval] using this
end Go.Proofs.Ytnjimecjpnjojaa.Q

/- The functions of octet's reference, told by lists: Put and Get. -/
namespace Go.Proofs.Ytnjimecjpnjojaa.Q
open Go.RowKit Go.Proofs.Ytnjimecjpnjojaa.Print Go.Proofs.YtnjimecjpnjojaaW.PrintWords Go.Proofs.YtnjimecjpnjojaaW.PrintLast Go.Proofs.YtnjimecjpnjojaaW.PrintMore
set_option linter.unusedVariables false
set_option linter.unusedSimpArgs false

theorem rget_loop (x : List Int) (hb : Bytes x) (hl : x.length ≤ 8) (big : Bool) (d : Nat) : ∀ i : Nat, x.length - i = d → i ≤ x.length →
    Ev (fun k => umpireref02_Get.l0 k x big (beval ((if big then x else x.reverse).take i)) (i : Int)) (getv x big) := by
  induction d with
  | zero =>
    intro i hd hi
    obtain rfl : i = x.length := by omega
    refine Ev.step (f := fun _ => some (getv x big)) (fun k => ?_) (Ev.now _)
    rw [umpireref02_Get.l0, if_neg (by omega)]
    unfold getv
    cases big <;> simp [List.take_of_length_le]
  | succ d ih =>
    intro i hd hi
    refine Ev.step (f := fun k => umpireref02_Get.l0 k x big (beval ((if big then x else x.reverse).take (i + 1))) ((i + 1 : Nat) : Int)) (fun k => ?_) (ih (i + 1) (by omega) (by omega))
    have hr : 0 ≤ beval ((if big then x else x.reverse).take i) ∧ beval ((if big then x else x.reverse).take i) < 72057594037927936 := by
      have hbb : Bytes ((if big then x else x.reverse).take i) := by
        cases big
        · exact hb.reverse.take i
        · exact hb.take i
      have := beval_range _ hbb
      have h2 := pow256_le (i := ((if big then x else x.reverse).take i).length) (j := 7) (by rw [List.length_take]; omega)
      rw [show (256 : Int) ^ 7 = 72057594037927936 from by decide] at h2
      exact ⟨this.1, Int.lt_of_lt_of_le this.2 h2⟩
    have st : ∀ v b : Int, 0 ≤ v → v < 72057594037927936 → 0 ≤ b ∧ b < 256 → IntKind.u64.wrap (IntKind.u64.wrap (256 * v) + IntKind.u64.wrap b) = v * 256 + b := by
      intro v b a1 a2 a3
      rw [wu64s (x := 256 * v) (by omega) (by omega), wu64s (x := b) (by omega) (by omega), wu64s (by omega) (by omega)]
      omega
    rw [umpireref02_Get.l0, if_pos (by omega)]
    cases big
    · simp only [Bool.false_eq_true, if_false] at hr ⊢
      rw [w64 (x := (x.length : Int) - 1) (by omega) (by omega), w64 (x := (x.length : Int) - 1 - (i : Int)) (by omega) (by omega), if_pos (by omega), if_pos (by omega)]
      rw [st _ _ hr.1 hr.2 (hb.at _), w64 (by omega) (by omega)]
      rw [List.take_succ_eq_append_getElem (by simp; omega), beval_snoc, List.getElem_reverse]
      rw [show ((x.length : Int) - 1 - (i : Int)) = ((x.length - 1 - i : Nat) : Int) by omega, rd_get (a := x) (x.length - 1 - i) (by omega)]
      rfl
    · simp only [if_true] at hr ⊢
      rw [if_pos (by omega), st _ _ hr.1 hr.2 (hb.at _), w64 (by omega) (by omega)]
      rw [List.take_succ_eq_append_getElem (by omega), beval_snoc, rd_get (a := x) i (by omega)]
      rfl
theorem rget_spec (x : List Int) (hb : Bytes x) (hl : x.length ≤ 8) (big : Bool) : Ev (fun k => umpireref02_Get.f k x big) (getv x big) := by
  show Ev (fun k => umpireref02_Get.l0 k x big 0 0) _
  have := rget_loop x hb hl big x.length 0 (by omega) (by omega)
  simpa [beval] using this
end Go.Proofs.Ytnjimecjpnjojaa.Q

/- Numbers of a capture, as the program and the reference read them. -/
namespace Go.Proofs.Ytnjimecjpnjojaa.Q
open Go.RowKit Go.Proofs.Ytnjimecjpnjojaa.Print Go.Proofs.YtnjimecjpnjojaaW.PrintWords Go.Proofs.YtnjimecjpnjojaaW.PrintLast Go.Proofs.YtnjimecjpnjojaaW.PrintMore
set_option linter.unusedVariables false
/-- So many bytes at a place, as a number. -/
def numv (l : List Int) (a n : Nat) (big : Bool) : Int := getv ((l.take (a + n)).drop a) big
theorem num_len (l : List Int) (a n : Nat) (h : a + n ≤ l.length) : ((l.take (a + n)).drop a).length = n := by
  rw [List.length_drop, List.length_take]; omega
theorem numv_range (l : List Int) (hb : Bytes l) (a n : Nat) (big : Bool) (hn : n ≤ 4) (h : a + n ≤ l.length) : 0 ≤ numv l a n big ∧ numv l a n big < 4294967296 := by
  have h1 := getv_range ((l.take (a + n)).drop a) big ((hb.take _).drop _)
  rw [num_len l a n h] at h1
  have h2 : (256 : Int) ^ n ≤ 256 ^ 4 := pow256_le hn
  have h3 : (256 : Int) ^ 4 = 4294967296 := by decide
  rw [h3] at h2
  exact ⟨h1.1, Int.lt_of_lt_of_le h1.2 h2⟩
theorem num_spec (l : List Int) (hb : Bytes l) (a n : Nat) (big : Bool) (h1 : 1 ≤ n) (hn : n ≤ 4) (h : a + n ≤ l.length) : Ev (fun k => pcap_numbers.num k l big (a : Int) (n : Int)) (numv l a n big) := by
  have hr := numv_range l hb a n big hn h
  have hl := num_len l a n h
  have e1 : ((a : Int) + (n : Int)).toNat = a + n := by omega
  have e2 : ((a : Int)).toNat = a := by omega
  have hg := get_spec ((l.take (a + n)).drop a) ((hb.take _).drop _) big
  rw [if_pos (by rw [hl]; omega)] at hg
  unfold pcap_numbers.num
  rw [e1, e2]
  refine Ev.bind hg ?_
  refine Ev.const ?_
  show some (numv l a n big % 4294967296) = _
  rw [Int.emod_eq_of_lt hr.1 hr.2]
theorem rnum_spec (l : List Int) (hb : Bytes l) (a : Nat) (big : Bool) (hm : l.length ≤ 4611686018427387904) (h : a + 4 ≤ l.length) : Ev (fun k => umpireref09_num.f k l (a : Int) big) (numv l a 4 big) := by
  have hr := numv_range l hb a 4 big (by omega) h
  have hl := num_len l a 4 h
  have e0 : wrap64 ((a : Int) + 4) = (a : Int) + 4 := w64 (by omega) (by omega)
  have e1 : ((a : Int) + 4).toNat = a + 4 := by omega
  have e2 : ((a : Int)).toNat = a := by omega
  have hg := rget_spec ((l.take (a + 4)).drop a) ((hb.take _).drop _) (by rw [hl]; omega) big
  have hf : ∀ k, umpireref09_num.f k l (a : Int) big = (umpireref02_Get.f k ((l.take (a + 4)).drop a) big).bind fun t => some (t % 4294967296) := by
    intro k
    unfold umpireref09_num.f
    rw [e0, if_pos (by omega), if_pos (by omega), if_pos (by omega), e1, e2]
  refine Ev.congr hf ?_
  refine Ev.bind hg ?_
  refine Ev.const ?_
  show some (numv l a 4 big % 4294967296) = _
  rw [Int.emod_eq_of_lt hr.1 hr.2]
end Go.Proofs.Ytnjimecjpnjojaa.Q

/- slices.Clone at bytes, told by lists. -/
namespace Go.Proofs.Ytnjimecjpnjojaa.Q
open Go.RowKit Go.Proofs.Ytnjimecjpnjojaa.Print Go.Proofs.YtnjimecjpnjojaaW.PrintWords Go.Proofs.YtnjimecjpnjojaaW.PrintLast Go.Proofs.YtnjimecjpnjojaaW.PrintMore
set_option linter.unusedVariables false
set_option linter.unusedSimpArgs false

theorem clone_spec (l : List Int) (h : l.length < 140737488355328) : slices_Clone_byte_byte.f l = some l := by
  unfold slices_Clone_byte_byte.f
  rw [if_pos h]
end Go.Proofs.Ytnjimecjpnjojaa.Q

/- octet.Cut, told by lists. -/
namespace Go.Proofs.Ytnjimecjpnjojaa.Q
open Go.RowKit Go.Proofs.Ytnjimecjpnjojaa.Print Go.Proofs.YtnjimecjpnjojaaW.PrintWords Go.Proofs.YtnjimecjpnjojaaW.PrintLast Go.Proofs.YtnjimecjpnjojaaW.PrintMore
set_option linter.unusedVariables false
set_option linter.unusedSimpArgs false

/-- What is cut out of l at a place, n bytes. -/
def cutv (l : List Int) (at_ n : Int) : List Int × Bool :=
  if 0 ≤ at_ ∧ 0 ≤ n ∧ at_ + n ≤ l.length then ((l.drop at_.toNat).take n.toNat, true) else ([], false)
theorem cut_spec (l : List Int) (at_ n : Int) (hl : l.length < 140737488355328) (ha : at_ ≤ 9223372036854775807) : octet_Cut.f l at_ n = some (cutv l at_ n) := by
  unfold octet_Cut.f cutv
  by_cases a : at_ < 0
  · rw [if_pos a, if_neg (by omega)]
  · rw [if_neg a]
    by_cases b : n < 0
    · rw [if_pos b, if_neg (by omega)]
    · rw [if_neg b]
      by_cases c : at_ > (l.length : Int)
      · rw [if_pos c, if_neg (by omega)]
      · rw [if_neg c, w64 (x := (l.length : Int) - at_) (by omega) (by omega)]
        by_cases d : n > (l.length : Int) - at_
        · rw [if_pos d, if_neg (by omega)]
        · rw [if_neg d, if_pos (by omega), w64 (by omega) (by omega), if_pos (by omega), if_pos (by omega), if_pos (by omega)]
          rw [clone_spec _ (by rw [List.length_drop, List.length_take]; omega)]
          simp only [Option.bind_some]
          rw [List.drop_take, show (at_ + n).toNat - at_.toNat = n.toNat by omega]
end Go.Proofs.Ytnjimecjpnjojaa.Q

/- The record with which bytes begin: pcap.Next and the reference's. -/
namespace Go.Proofs.Ytnjimecjpnjojaa.Q
open Go.RowKit Go.Proofs.Ytnjimecjpnjojaa.Print Go.Proofs.YtnjimecjpnjojaaW.PrintWords Go.Proofs.YtnjimecjpnjojaaW.PrintLast Go.Proofs.YtnjimecjpnjojaaW.PrintMore
set_option linter.unusedVariables false
def nextv (l : List Int) (big : Bool) : Int × Int × Int × List Int × Int × Int :=
  if l.length < 16 then (0, 0, 0, [], 0, 2) else
  if numv l 8 4 big > 131072 then (0, 0, 0, [], 0, 4) else
  if (l.length : Int) < 16 + numv l 8 4 big then (0, 0, 0, [], 0, 2) else
  (numv l 0 4 big, numv l 4 4 big, numv l 12 4 big, (l.drop 16).take (numv l 8 4 big).toNat, 16 + numv l 8 4 big, 0)
theorem next_spec (l : List Int) (hb : Bytes l) (hm : l.length < 140737488355328) (big : Bool) : Ev (fun k => pcap_Next.f k l big) (nextv l big) := by
  unfold pcap_Next.f nextv
  by_cases h : l.length < 16
  · rw [if_pos h]
    exact Ev.congr (fun k => if_pos (by omega)) (Ev.now _)
  · rw [if_neg h]
    refine Ev.congr (fun k => if_neg (by omega)) ?_
    refine Ev.bind (num_spec l hb 0 4 big (by omega) (by omega) (by omega)) ?_
    refine Ev.bind (num_spec l hb 4 4 big (by omega) (by omega) (by omega)) ?_
    refine Ev.bind (num_spec l hb 8 4 big (by omega) (by omega) (by omega)) ?_
    refine Ev.bind (num_spec l hb 12 4 big (by omega) (by omega) (by omega)) ?_
    have hr := numv_range l hb 8 4 big (by omega) (by omega)
    generalize numv l 8 4 big = t at hr ⊢
    by_cases h2 : t > 131072
    · rw [if_pos h2, if_pos h2]; exact Ev.now _
    · rw [if_neg h2, if_neg h2]
      rw [cut_spec l 16 t hm (by omega), Option.bind_some]
      by_cases h3 : (l.length : Int) < 16 + t
      · have hc : cutv l 16 t = ([], false) := if_neg (fun hh => by have := hh.2.2; omega)
        rw [if_pos h3, hc]
        exact Ev.now _
      · have hc : cutv l 16 t = ((l.drop 16).take t.toNat, true) := if_pos ⟨by omega, hr.1, by omega⟩
        rw [if_neg h3, hc]
        exact Ev.now _
theorem rnext_spec (l : List Int) (hb : Bytes l) (hm : l.length < 140737488355328) (big : Bool) : Ev (fun k => umpireref09_Next.f k l big) (nextv l big) := by
  unfold umpireref09_Next.f nextv
  by_cases h : l.length < 16
  · rw [if_pos h]
    exact Ev.congr (fun k => if_pos (by omega)) (Ev.now _)
  · rw [if_neg h]
    refine Ev.congr (fun k => if_neg (by omega)) ?_
    refine Ev.bind (rnum_spec l hb 8 big (by omega) (by omega)) ?_
    have hr := numv_range l hb 8 4 big (by omega) (by omega)
    generalize numv l 8 4 big = t at hr ⊢
    have e1 : wrap64 t = t := w64 (by omega) (by omega)
    have e2 : wrap64 (16 + t) = 16 + t := w64 (by omega) (by omega)
    rw [e1, e2]
    by_cases h2 : t > 131072
    · rw [if_pos h2]; exact Ev.congr (fun k => if_pos h2) (Ev.now _)
    · rw [if_neg h2]
      refine Ev.congr (fun k => if_neg h2) ?_
      by_cases h3 : (l.length : Int) < 16 + t
      · rw [if_pos h3]; exact Ev.congr (fun k => if_pos h3) (Ev.now _)
      · rw [if_neg h3]
        refine Ev.congr (fun k => if_neg h3) ?_
        refine Ev.bind (rnum_spec l hb 0 big (by omega) (by omega)) ?_
        refine Ev.bind (rnum_spec l hb 4 big (by omega) (by omega)) ?_
        refine Ev.bind (rnum_spec l hb 12 big (by omega) (by omega)) ?_
        have hd : (l.take ((16 + t).toNat)).drop 16 = (l.drop 16).take t.toNat := by
          rw [List.drop_take]
          congr 1
          omega
        rw [hd]
        have hle : ((l.drop 16).take t.toNat).length ≤ l.length := by rw [List.length_take, List.length_drop]; omega
        refine Ev.const ?_
        rw [if_pos (by omega), if_pos (by omega), if_pos (by simp only [List.length_nil]; omega), List.nil_append]
end Go.Proofs.Ytnjimecjpnjojaa.Q

/- The header of a capture, as pcap.Head reads it. -/
namespace Go.Proofs.Ytnjimecjpnjojaa.Q
open Go.RowKit Go.Proofs.Ytnjimecjpnjojaa.Print Go.Proofs.YtnjimecjpnjojaaW.PrintWords Go.Proofs.YtnjimecjpnjojaaW.PrintLast Go.Proofs.YtnjimecjpnjojaaW.PrintMore
set_option linter.unusedVariables false
def orderv (l : List Int) : Bool × Bool × Int × Int × Bool :=
  if numv l 0 4 false = 2712847316 then (false, false, 0, 0, true) else if numv l 0 4 false = 2712812621 then (false, true, 0, 0, true) else
  if numv l 0 4 true = 2712847316 then (true, false, 0, 0, true) else if numv l 0 4 true = 2712812621 then (true, true, 0, 0, true) else (false, false, 0, 0, false)
theorem order_spec (l : List Int) (hb : Bytes l) (h : 4 ≤ l.length) : Ev (fun k => pcap_order.f k l) (orderv l) := by
  unfold pcap_order.f orderv
  refine Ev.bind (num_spec l hb 0 4 false (by omega) (by omega) (by omega)) ?_
  split
  · exact Ev.now _
  · split
    · exact Ev.now _
    · refine Ev.bind (num_spec l hb 0 4 true (by omega) (by omega) (by omega)) ?_
      split
      · exact Ev.now _
      · split
        · exact Ev.now _
        · exact Ev.now _
def headv (l : List Int) : Bool × Bool × Int × Int × Int :=
  if l.length < 4 then (false, false, 0, 0, 2) else
  if (orderv l).2.2.2.2 = false then (false, false, 0, 0, 3) else
  if l.length < 24 then (false, false, 0, 0, 2) else
  if numv (l.drop 4) 0 2 (orderv l).1 ≠ 2 then (false, false, 0, 0, 3) else
  ((orderv l).1, (orderv l).2.1, numv (l.drop 4) 12 4 (orderv l).1, numv (l.drop 4) 16 4 (orderv l).1, 0)
theorem head_spec (l : List Int) (hb : Bytes l) : Ev (fun k => pcap_Head.f k l) (headv l) := by
  unfold pcap_Head.f headv
  by_cases h : l.length < 4
  · rw [if_pos h]
    exact Ev.congr (fun k => if_pos (by omega)) (Ev.now _)
  · rw [if_neg h]
    refine Ev.congr (fun k => if_neg (by omega)) ?_
    refine Ev.bind (order_spec l hb (by omega)) ?_
    generalize orderv l = o
    by_cases h1 : o.2.2.2.2 = false
    · rw [if_pos h1]
      exact Ev.congr (fun k => if_pos h1) (Ev.now _)
    · rw [if_neg h1]
      refine Ev.congr (fun k => if_neg h1) ?_
      by_cases h2 : l.length < 24
      · rw [if_pos h2]
        exact Ev.congr (fun k => if_pos (by omega)) (Ev.now _)
      · rw [if_neg h2]
        refine Ev.congr (fun k => if_neg (by omega)) ?_
        have hd : (l.drop 4).length = l.length - 4 := List.length_drop ..
        have hb4 : Bytes (l.drop 4) := hb.drop _
        refine Ev.bind (num_spec (l.drop 4) hb4 0 2 o.1 (by omega) (by omega) (by omega)) ?_
        by_cases h3 : numv (l.drop 4) 0 2 o.1 ≠ 2
        · rw [if_pos h3]
          exact Ev.congr (fun k => if_pos h3) (Ev.now _)
        · rw [if_neg h3]
          refine Ev.congr (fun k => if_neg h3) ?_
          refine Ev.bind (num_spec (l.drop 4) hb4 2 2 o.1 (by omega) (by omega) (by omega)) ?_
          refine Ev.bind (num_spec (l.drop 4) hb4 4 4 o.1 (by omega) (by omega) (by omega)) ?_
          refine Ev.bind (num_spec (l.drop 4) hb4 8 4 o.1 (by omega) (by omega) (by omega)) ?_
          refine Ev.bind (num_spec (l.drop 4) hb4 12 4 o.1 (by omega) (by omega) (by omega)) ?_
          refine Ev.bind (num_spec (l.drop 4) hb4 16 4 o.1 (by omega) (by omega) (by omega)) ?_
          exact Ev.now _
end Go.Proofs.Ytnjimecjpnjojaa.Q

/- Records, read one after another: pcap.Read. -/
namespace Go.Proofs.Ytnjimecjpnjojaa.Q
open Go.RowKit Go.Proofs.Ytnjimecjpnjojaa.Print Go.Proofs.YtnjimecjpnjojaaW.PrintWords Go.Proofs.YtnjimecjpnjojaaW.PrintLast Go.Proofs.YtnjimecjpnjojaaW.PrintMore
set_option linter.unusedVariables false
theorem nextv_size (l : List Int) (hb : Bytes l) (big : Bool) (h : (nextv l big).2.2.2.2.2 = 0) : 16 ≤ (nextv l big).2.2.2.2.1 ∧ (nextv l big).2.2.2.2.1 ≤ l.length := by
  unfold nextv at h ⊢
  by_cases h1 : l.length < 16
  · rw [if_pos h1] at h; exact absurd h (by decide)
  · rw [if_neg h1] at h ⊢
    by_cases h2 : numv l 8 4 big > 131072
    · rw [if_pos h2] at h; exact absurd h (by decide)
    · rw [if_neg h2] at h ⊢
      by_cases h3 : (l.length : Int) < 16 + numv l 8 4 big
      · rw [if_pos h3] at h; exact absurd h (by decide)
      · rw [if_neg h3] at h ⊢
        have := numv_range l hb 8 4 big (by omega) (by omega)
        exact ⟨by show 16 ≤ 16 + numv l 8 4 big; omega, by show 16 + numv l 8 4 big ≤ _; omega⟩
/-- The records from a place on; where the first fault stands, and which it is. -/
def readw (big : Bool) : Nat → List Int → List S46 → Nat → List S46 × Int × Int
  | 0, _, acc, _ => (acc, 0, 0)
  | f + 1, l, acc, i =>
    if i < l.length then
      if (nextv (l.drop i) big).2.2.2.2.2 = 0 then
        readw big f l (acc ++ [⟨(nextv (l.drop i) big).1, (nextv (l.drop i) big).2.1, (nextv (l.drop i) big).2.2.1, (nextv (l.drop i) big).2.2.2.1⟩]) (i + (nextv (l.drop i) big).2.2.2.2.1.toNat)
      else (acc, (i : Int), (nextv (l.drop i) big).2.2.2.2.2)
    else (acc, 0, 0)
theorem read_loop (l : List Int) (hb : Bytes l) (hm : l.length ≤ 3518437208000) (big b2 : Bool) (s k0 : Int) (f : Nat) : ∀ (i : Nat) (acc : List S46), l.length < i + f → i ≤ l.length → acc.length ≤ i →
    Ev (fun k => pcap_Read.l0 k l acc i big b2 s k0) (big, b2, s, k0, readw big f l acc i) := by
  induction f with
  | zero =>
    intro i acc h1 h2 h3
    omega
  | succ f ih =>
    intro i acc h1 h2 h3
    unfold readw
    by_cases h : i < l.length
    · rw [if_pos h]
      refine Ev.step (fun k => by rw [pcap_Read.l0, if_pos (by omega), if_pos (by omega), if_pos (by omega), Int.toNat_natCast]) ?_
      have hbd : Bytes (l.drop i) := hb.drop i
      have hld : (l.drop i).length = l.length - i := List.length_drop ..
      refine Ev.bind (next_spec (l.drop i) hbd (by omega) big) ?_
      have hsz := nextv_size (l.drop i) hbd big
      generalize nextv (l.drop i) big = r at hsz ⊢
      by_cases he : r.2.2.2.2.2 = 0
      · rw [if_pos he]
        have := hsz he
        refine Ev.congr (fun k => if_pos he) ?_
        refine Ev.congr (fun k => if_pos (by omega)) ?_
        have hw : wrap64 ((i : Int) + r.2.2.2.2.1) = ((i + r.2.2.2.2.1.toNat : Nat) : Int) := by rw [w64 (by omega) (by omega)]; omega
        rw [hw]
        exact ih _ _ (by omega) (by omega) (by rw [List.length_append]; simp only [List.length_cons, List.length_nil]; omega)
      · rw [if_neg he]
        exact Ev.congr (fun k => if_neg he) (Ev.now _)
    · rw [if_neg h]
      refine Ev.step (fun k => by rw [pcap_Read.l0, if_neg (by omega)]) ?_
      exact Ev.now _
def readv (l : List Int) : Bool × Bool × Int × Int × List S46 × Int × Int :=
  if (headv l).2.2.2.2 = 0 then ((headv l).1, (headv l).2.1, (headv l).2.2.1, (headv l).2.2.2.1, readw (headv l).1 (l.length + 1) l [] 24)
  else (false, false, 0, 0, [], 0, (headv l).2.2.2.2)
theorem headv_long (l : List Int) (h : (headv l).2.2.2.2 = 0) : 24 ≤ l.length := by
  unfold headv at h
  by_cases h1 : l.length < 4
  · rw [if_pos h1] at h; exact absurd h (by decide)
  · rw [if_neg h1] at h
    by_cases h2 : (orderv l).2.2.2.2 = false
    · rw [if_pos h2] at h; exact absurd h (by decide)
    · rw [if_neg h2] at h
      by_cases h3 : l.length < 24
      · rw [if_pos h3] at h; exact absurd h (by decide)
      · omega
theorem read_spec (l : List Int) (hb : Bytes l) (hm : l.length ≤ 3518437208000) : Ev (fun k => pcap_Read.f k l) (readv l) := by
  unfold pcap_Read.f readv
  refine Ev.bind (head_spec l hb) ?_
  by_cases h : (headv l).2.2.2.2 = 0
  · rw [if_pos h]
    refine Ev.congr (fun k => if_pos h) ?_
    have := headv_long l h
    exact read_loop l hb hm _ _ _ _ (l.length + 1) 24 [] (by omega) (by omega) (by simp)
  · rw [if_neg h]
    exact Ev.congr (fun k => if_neg h) (Ev.now _)
end Go.Proofs.Ytnjimecjpnjojaa.Q

/- The functions of octet's reference, told by lists: Put and Get. -/
namespace Go.Proofs.Ytnjimecjpnjojaa.Q
open Go.RowKit Go.Proofs.Ytnjimecjpnjojaa.Print Go.Proofs.YtnjimecjpnjojaaW.PrintWords Go.Proofs.YtnjimecjpnjojaaW.PrintLast Go.Proofs.YtnjimecjpnjojaaW.PrintMore
set_option linter.unusedVariables false
set_option linter.unusedSimpArgs false

theorem leb_drop (n : Int) (i : Nat) : ∀ s : Nat, leb n (i + s) = leb n i ++ leb (n / 256 ^ i) s := by
  induction i generalizing n with
  | zero => intro s; simp [leb]
  | succ i ih =>
    intro s
    rw [show i + 1 + s = (i + s) + 1 by omega, leb, ih (n / 256) s, leb, List.cons_append, Int.pow_succ, Int.mul_comm, Int.ediv_ediv_of_nonneg (by decide)]
theorem rput_loop (n : Int) (h0 : 0 ≤ n) (h1 : n < 18446744073709551616) (s : Nat) (hs : s ≤ 8) (big : Bool) (d : Nat) : ∀ (i : Nat), s - i = d → i ≤ s →
    Ev (fun k => umpireref02_Put.l0 k (n / 256 ^ i) (s : Int) big (putb n i big) (i : Int)) (putb n s big) := by
  induction d with
  | zero =>
    intro i hd hi
    obtain rfl : i = s := by omega
    refine Ev.step (f := fun _ => some (putb n i big)) (fun k => ?_) (Ev.now _)
    rw [umpireref02_Put.l0, if_neg (by omega)]
  | succ d ih =>
    intro i hd hi
    refine Ev.step (f := fun k => umpireref02_Put.l0 k (n / 256 ^ (i + 1)) (s : Int) big (putb n (i + 1) big) ((i + 1 : Nat) : Int)) (fun k => ?_) (ih (i + 1) (by omega) (by omega))
    have hq0 : 0 ≤ n / 256 ^ i := Int.ediv_nonneg h0 (Int.le_of_lt (Int.pow_pos (by decide)))
    have hq1 : n / 256 ^ i ≤ n := Int.ediv_le_self _ h0
    have hdv : IntKind.u64.wrap (Int.tdiv (n / 256 ^ i) 256) = n / 256 ^ (i + 1) := by
      rw [Int.tdiv_eq_ediv_of_nonneg hq0, Int.ediv_ediv_of_nonneg (Int.le_of_lt (Int.pow_pos (by decide))), ← Int.pow_succ, wu64s]
      · exact Int.ediv_nonneg h0 (Int.le_of_lt (Int.pow_pos (by decide)))
      · exact Int.lt_of_le_of_lt (Int.ediv_le_self _ h0) h1
    have hmd : Int.tmod (n / 256 ^ i) 256 % 256 = n / 256 ^ i % 256 := by
      rw [Int.tmod_eq_emod_of_nonneg hq0]
      omega
    have hl : (putb n i big).length = i := putb_length _ _ _
    rw [umpireref02_Put.l0, if_pos (by omega), hdv, hmd, w64 (by omega) (by omega)]
    cases big
    · simp only [Bool.false_eq_true, if_false]
      rw [if_pos (by omega)]
      have : putb n i false ++ [n / 256 ^ i % 256] = putb n (i + 1) false := by
        unfold putb
        simp only [Bool.false_eq_true, if_false]
        rw [leb_snoc]
      rw [this]
      rfl
    · simp only [if_true, Option.bind_some]
      rw [if_pos (by simp [hl]; omega)]
      have : [n / 256 ^ i % 256] ++ putb n i true = putb n (i + 1) true := by
        unfold putb
        simp only [if_true]
        rw [leb_snoc, List.reverse_append]
        rfl
      rw [this]
      rfl
theorem rput_spec (n : Int) (s : Nat) (big : Bool) (h0 : 0 ≤ n) (h1 : n < 18446744073709551616) (hs : s ≤ 8) : Ev (fun k => umpireref02_Put.f k n (s : Int) big) (putb n s big) := by
  have := rput_loop n h0 h1 s hs big s 0 (by omega) (by omega)
  have e : putb n 0 big = [] := by unfold putb; cases big <;> rfl
  rw [e] at this
  simp only [Int.pow_zero, Int.ediv_one] at this
  exact this

end Go.Proofs.Ytnjimecjpnjojaa.Q

/- Numbers laid one behind another: pcap.laid, and the reference's `four`. -/
namespace Go.Proofs.Ytnjimecjpnjojaa.Q
open Go.RowKit Go.Proofs.Ytnjimecjpnjojaa.Print Go.Proofs.YtnjimecjpnjojaaW.PrintWords Go.Proofs.YtnjimecjpnjojaaW.PrintLast Go.Proofs.YtnjimecjpnjojaaW.PrintMore
set_option linter.unusedVariables false
/-- Numbers, each of so many bytes, one behind another. -/
def laidb (l : List Int) (s : Nat) (big : Bool) : List Int := (l.map fun n => putb n s big).flatten
theorem laidb_length (l : List Int) (s : Nat) (big : Bool) : (laidb l s big).length = l.length * s := by
  unfold laidb
  induction l with
  | nil => simp
  | cons a l ih => rw [List.map_cons, List.flatten_cons, List.length_append, putb_length, ih, List.length_cons, Nat.add_mul]; omega
theorem laidb_next (l : List Int) (s : Nat) (big : Bool) (i : Nat) (hi : i < l.length) : laidb (l.take (i + 1)) s big = laidb (l.take i) s big ++ putb l[i] s big := by
  unfold laidb
  rw [List.take_succ_eq_append_getElem hi, List.map_append, List.flatten_append]
  simp
theorem laid_loop (big : Bool) (s : Nat) (hs1 : 1 ≤ s) (hs : s ≤ 4) (l : List Int) (hl : l.length ≤ 8) (hr : ∀ x ∈ l, 0 ≤ x ∧ x < 256 ^ s) (d : Nat) : ∀ (i : Nat), l.length - i = d → i ≤ l.length →
    Ev (fun k => pcap_laid.l0 k big s (laidb (l.take i) s big) l l.length i) (laidb l s big) := by
  induction d with
  | zero =>
    intro i hd hi
    obtain rfl : i = l.length := by omega
    refine Ev.step (fun k => by rw [pcap_laid.l0, if_neg (by omega)]) ?_
    rw [List.take_length]
    exact Ev.now _
  | succ d ih =>
    intro i hd hi
    have hlt : i < l.length := by omega
    have hx := hr l[i] (List.getElem_mem hlt)
    have hp : (256 : Int) ^ s ≤ 256 ^ 4 := pow256_le hs
    have h4 : (256 : Int) ^ 4 = 4294967296 := by decide
    rw [h4] at hp
    have e1 : IntKind.u64.wrap (rd l (i : Int)) = l[i] := by rw [rd_get i hlt]; exact wu64s hx.1 (by omega)
    have hw : wrap64 ((i : Int) + 1) = ((i + 1 : Nat) : Int) := by rw [w64 (by omega) (by omega)]; omega
    have hf : fits l[i] (s : Int) = true := by
      unfold fits
      simp only [Int.toNat_natCast, Bool.and_eq_true, decide_eq_true_eq]
      exact ⟨⟨by omega, by omega⟩, hx.2⟩
    have hps := put_spec l[i] (s : Int) big hx.1 (by omega)
    rw [hf, if_pos rfl, Int.toNat_natCast] at hps
    have hlen : (laidb (l.take i) s big).length + (putb l[i] s big).length < 140737488355328 := by
      rw [laidb_length, putb_length, List.length_take]
      have : min i l.length * s ≤ 8 * 4 := Nat.mul_le_mul (by omega) hs
      omega
    refine Ev.step (fun k => by rw [pcap_laid.l0, if_pos (by omega), if_pos (by omega), if_pos (by omega), e1]) ?_
    refine Ev.bind hps ?_
    refine Ev.congr (fun k => if_pos hlen) ?_
    have hg := ih (i + 1) (by omega) (by omega)
    rw [laidb_next l s big i hlt] at hg
    rw [hw]
    exact hg
theorem laid_spec (big : Bool) (s : Nat) (hs1 : 1 ≤ s) (hs : s ≤ 4) (l : List Int) (hl : l.length ≤ 8) (hr : ∀ x ∈ l, 0 ≤ x ∧ x < 256 ^ s) : Ev (fun k => pcap_laid.f k big s l) (laidb l s big) :=
  laid_loop big s hs1 hs l hl hr l.length 0 (by omega) (by omega)
theorem four_spec (l : List Int) (n : Int) (big : Bool) (h0 : 0 ≤ n) (h1 : n < 4294967296) (hl : l.length < 140737488355324) : Ev (fun k => umpireref09_four.f k l n big) (l ++ putb n 4 big) := by
  unfold umpireref09_four.f
  rw [wu64s h0 (by omega)]
  refine Ev.bind (rput_spec n 4 big h0 (by omega) (by omega)) ?_
  exact Ev.congr (fun k => if_pos (by rw [putb_length]; omega)) (Ev.now _)
end Go.Proofs.Ytnjimecjpnjojaa.Q

/- A capture of a header and records: pcap.Put and the reference's. -/
namespace Go.Proofs.Ytnjimecjpnjojaa.Q
open Go.RowKit Go.Proofs.Ytnjimecjpnjojaa.Print Go.Proofs.YtnjimecjpnjojaaW.PrintWords Go.Proofs.YtnjimecjpnjojaaW.PrintLast Go.Proofs.YtnjimecjpnjojaaW.PrintMore
set_option linter.unusedVariables false
def recb (big : Bool) (r : S46) : List Int := laidb [r.f0, r.f1, (r.f3.length : Int), r.f2] 4 big ++ r.f3
def markv (nano : Bool) : Int := if nano = true then 2712812621 else 2712847316
def headb (big nano : Bool) (snap link : Int) : List Int := laidb [markv nano] 4 big ++ (laidb [2, 4] 2 big ++ laidb [0, 0, snap, link] 4 big)
/-- Records behind what stands, or that one is too long. -/
def capv (big : Bool) : List Int → List S46 → List Int × Int
  | y, [] => (y, 0)
  | y, r :: l => if (r.f3.length : Int) > 131072 then ([], 4) else capv big (y ++ recb big r) l
/-- How many bytes records take. -/
def capn : List S46 → Nat
  | [] => 0
  | r :: l => 16 + r.f3.length + capn l
def Good (r : S46) : Prop := (0 ≤ r.f0 ∧ r.f0 < 4294967296) ∧ (0 ≤ r.f1 ∧ r.f1 < 4294967296) ∧ (0 ≤ r.f2 ∧ r.f2 < 4294967296)
theorem rdT_get (l : List S46) (i : Nat) (h : i < l.length) : rd_T46 l (i : Int) = l[i] := by
  unfold rd_T46
  rw [Int.toNat_natCast, List.getD_eq_getElem?_getD, List.getElem?_eq_getElem h]
  rfl
theorem p256_4 : (256 : Int) ^ 4 = 4294967296 := by decide
theorem capput_loop (big n : Bool) (s k0 : Int) (l : List S46) (hm : l.length ≤ 4611686018427387904) (hg : ∀ r ∈ l, Good r) (d : Nat) : ∀ (i : Nat) (y : List Int), l.length - i = d → i ≤ l.length → y.length + capn (l.drop i) < 140737488355328 →
    Ev (fun k => pcap_Put.l0 k y l l.length i big n s k0) (capv big y (l.drop i)) := by
  induction d with
  | zero =>
    intro i y hd hi hc
    obtain rfl : i = l.length := by omega
    refine Ev.step (fun k => by rw [pcap_Put.l0, if_neg (by omega)]) ?_
    rw [List.drop_length]
    exact Ev.now _
  | succ d ih =>
    intro i y hd hi hc
    have hlt : i < l.length := by omega
    have hdr : l.drop i = l[i] :: l.drop (i + 1) := List.drop_eq_getElem_cons hlt
    have hgr := hg l[i] (List.getElem_mem hlt)
    have e1 := rdT_get l i hlt
    have hw : wrap64 ((i : Int) + 1) = ((i + 1 : Nat) : Int) := by rw [w64 (by omega) (by omega)]; omega
    rw [hdr] at hc ⊢
    have ih2 := ih (i + 1)
    generalize l[i] = r at hgr e1 hc ⊢
    obtain ⟨g0, g1, g2⟩ := hgr
    refine Ev.step (fun k => by rw [pcap_Put.l0, if_pos (by omega), if_pos (by omega), if_pos (by omega), e1]) ?_
    unfold capn at hc
    unfold capv
    by_cases h : (r.f3.length : Int) > 131072
    · rw [if_pos h]
      exact Ev.congr (fun k => if_pos h) (Ev.now _)
    · rw [if_neg h]
      refine Ev.congr (fun k => if_neg h) ?_
      have hmod : (r.f3.length : Int) % 4294967296 = r.f3.length := Int.emod_eq_of_lt (by omega) (by omega)
      rw [hmod]
      refine Ev.bind (laid_spec big 4 (by omega) (by omega) [r.f0, r.f1, (r.f3.length : Int), r.f2] (by simp) (by
        intro x hx
        rw [p256_4]
        simp only [List.mem_cons, List.not_mem_nil, or_false] at hx
        rcases hx with rfl | rfl | rfl | rfl <;> omega)) ?_
      have hl := laidb_length [r.f0, r.f1, (r.f3.length : Int), r.f2] 4 big
      simp only [List.length_cons, List.length_nil] at hl
      unfold recb
      generalize laidb [r.f0, r.f1, (r.f3.length : Int), r.f2] 4 big = z at hl ⊢
      refine Ev.congr (fun k => if_pos (by omega)) ?_
      refine Ev.congr (fun k => Option.bind_some ..) ?_
      refine Ev.congr (fun k => if_pos (by rw [List.length_append]; omega)) ?_
      rw [hw, List.append_assoc]
      exact ih2 _ (by omega) (by omega) (by rw [List.length_append, List.length_append]; omega)
theorem rput_loop9 (big n : Bool) (s k0 : Int) (l : List S46) (hm : l.length ≤ 4611686018427387904) (hg : ∀ r ∈ l, Good r) (d : Nat) : ∀ (i : Nat) (y : List Int), l.length - i = d → i ≤ l.length → y.length + capn (l.drop i) < 140737488355300 →
    Ev (fun k => umpireref09_Put.l0 k l y i big n s k0) (capv big y (l.drop i)) := by
  induction d with
  | zero =>
    intro i y hd hi hc
    obtain rfl : i = l.length := by omega
    refine Ev.step (fun k => by rw [umpireref09_Put.l0, if_neg (by omega)]) ?_
    rw [List.drop_length]
    exact Ev.now _
  | succ d ih =>
    intro i y hd hi hc
    have hlt : i < l.length := by omega
    have hdr : l.drop i = l[i] :: l.drop (i + 1) := List.drop_eq_getElem_cons hlt
    have hgr := hg l[i] (List.getElem_mem hlt)
    have e1 := rdT_get l i hlt
    have hw : wrap64 ((i : Int) + 1) = ((i + 1 : Nat) : Int) := by rw [w64 (by omega) (by omega)]; omega
    rw [hdr] at hc ⊢
    have ih2 := ih (i + 1)
    generalize l[i] = r at hgr e1 hc ⊢
    obtain ⟨g0, g1, g2⟩ := hgr
    refine Ev.step (fun k => by rw [umpireref09_Put.l0, if_pos (by omega), if_pos (by omega), e1]) ?_
    unfold capn at hc
    unfold capv
    by_cases h : (r.f3.length : Int) > 131072
    · rw [if_pos h]
      exact Ev.congr (fun k => if_pos h) (Ev.now _)
    · rw [if_neg h]
      refine Ev.congr (fun k => if_neg h) ?_
      have hmod : (r.f3.length : Int) % 4294967296 = r.f3.length := Int.emod_eq_of_lt (by omega) (by omega)
      rw [hmod]
      refine Ev.bind (four_spec y r.f0 big g0.1 g0.2 (by omega)) ?_
      refine Ev.bind (four_spec _ r.f1 big g1.1 g1.2 (by rw [List.length_append, putb_length]; omega)) ?_
      refine Ev.bind (four_spec _ (r.f3.length : Int) big (by omega) (by omega) (by rw [List.length_append, List.length_append, putb_length, putb_length]; omega)) ?_
      refine Ev.bind (four_spec _ r.f2 big g2.1 g2.2 (by rw [List.length_append, List.length_append, List.length_append, putb_length, putb_length, putb_length]; omega)) ?_
      have hz : y ++ putb r.f0 4 big ++ putb r.f1 4 big ++ putb (r.f3.length : Int) 4 big ++ putb r.f2 4 big = y ++ laidb [r.f0, r.f1, (r.f3.length : Int), r.f2] 4 big := by
        unfold laidb
        simp
      rw [hz]
      have hl := laidb_length [r.f0, r.f1, (r.f3.length : Int), r.f2] 4 big
      simp only [List.length_cons, List.length_nil] at hl
      unfold recb
      generalize laidb [r.f0, r.f1, (r.f3.length : Int), r.f2] 4 big = z at hl ⊢
      refine Ev.congr (fun k => if_pos (by rw [List.length_append]; omega)) ?_
      rw [hw, List.append_assoc]
      exact ih2 _ (by omega) (by omega) (by rw [List.length_append, List.length_append]; omega)
end Go.Proofs.Ytnjimecjpnjojaa.Q

/- What pcap.Put and the reference's answer. -/
namespace Go.Proofs.Ytnjimecjpnjojaa.Q
open Go.RowKit Go.Proofs.Ytnjimecjpnjojaa.Print Go.Proofs.YtnjimecjpnjojaaW.PrintWords Go.Proofs.YtnjimecjpnjojaaW.PrintLast Go.Proofs.YtnjimecjpnjojaaW.PrintMore
set_option linter.unusedVariables false
theorem headb_length (big nano : Bool) (s k0 : Int) : (headb big nano s k0).length = 24 := by
  unfold headb
  rw [List.length_append, List.length_append, laidb_length, laidb_length, laidb_length]
  rfl
theorem markv_range (nano : Bool) : 0 ≤ markv nano ∧ markv nano < 4294967296 := by cases nano <;> decide
theorem zeros8 (big : Bool) : ([0, 0, 0, 0, 0, 0, 0, 0] : List Int) = putb 0 4 big ++ putb 0 4 big := by cases big <;> rfl
theorem capput_spec (big nano : Bool) (s k0 : Int) (l : List S46) (hm : l.length ≤ 4611686018427387904) (hg : ∀ r ∈ l, Good r) (hs : 0 ≤ s ∧ s < 4294967296) (hk : 0 ≤ k0 ∧ k0 < 4294967296) (hc : capn l ≤ 140000000) :
    Ev (fun k => pcap_Put.f k big nano s k0 l) (capv big (headb big nano s k0) l) := by
  have hh := headb_length big nano s k0
  have hloop := capput_loop big nano s k0 l hm hg l.length 0 (headb big nano s k0) (by omega) (by omega) (by rw [List.drop_zero]; omega)
  rw [List.drop_zero] at hloop
  have hj : Ev (fun k => pcap_Put.j0 k l (markv nano) big nano s k0) (capv big (headb big nano s k0) l) := by
    have hmk := markv_range nano
    refine Ev.step (fun k => by rw [pcap_Put.j0]) ?_
    refine Ev.bind (laid_spec big 4 (by omega) (by omega) [markv nano] (by simp) (by
      intro x hx
      rw [p256_4]
      simp only [List.mem_cons, List.not_mem_nil, or_false] at hx
      rw [hx]; exact hmk)) ?_
    refine Ev.bind (laid_spec big 2 (by omega) (by omega) [2, 4] (by simp) (by
      intro x hx
      simp only [List.mem_cons, List.not_mem_nil, or_false] at hx
      rcases hx with rfl | rfl <;> decide)) ?_
    refine Ev.bind (laid_spec big 4 (by omega) (by omega) [0, 0, s, k0] (by simp) (by
      intro x hx
      rw [p256_4]
      simp only [List.mem_cons, List.not_mem_nil, or_false] at hx
      rcases hx with rfl | rfl | rfl | rfl <;> omega)) ?_
    have hcat : slices_Concat_byte_byte.f [laidb [markv nano] 4 big, laidb [2, 4] 2 big, laidb [0, 0, s, k0] 4 big] = some (headb big nano s k0) := by
      have he : [laidb [markv nano] 4 big, laidb [2, 4] 2 big, laidb [0, 0, s, k0] 4 big].flatten = headb big nano s k0 := by
        unfold headb
        simp
      unfold slices_Concat_byte_byte.f
      rw [he, if_pos (by rw [hh]; omega)]
    refine Ev.congr (fun k => by rw [hcat, Option.bind_some]) ?_
    exact hloop
  unfold pcap_Put.f
  cases nano with
  | false => exact Ev.congr (fun k => if_neg (by decide)) hj
  | true => exact Ev.congr (fun k => if_pos rfl) hj
theorem rhead_spec (big nano : Bool) (s k0 : Int) (hs : 0 ≤ s ∧ s < 4294967296) (hk : 0 ≤ k0 ∧ k0 < 4294967296) : Ev (fun k => umpireref09_Header.f k big nano s k0) (headb big nano s k0) := by
  have hj : Ev (fun k => umpireref09_Header.j0 k (markv nano) big nano s k0) (headb big nano s k0) := by
    have hmk := markv_range nano
    refine Ev.step (fun k => by rw [umpireref09_Header.j0]) ?_
    refine Ev.bind (four_spec [] (markv nano) big hmk.1 hmk.2 (by simp)) ?_
    refine Ev.bind (rput_spec 2 2 big (by omega) (by omega) (by omega)) ?_
    refine Ev.congr (fun k => if_pos (by rw [List.length_append, putb_length, putb_length]; simp)) ?_
    refine Ev.congr (fun k => Option.bind_some ..) ?_
    refine Ev.bind (rput_spec 4 2 big (by omega) (by omega) (by omega)) ?_
    refine Ev.congr (fun k => if_pos (by rw [List.length_append, List.length_append, putb_length, putb_length, putb_length]; simp)) ?_
    refine Ev.congr (fun k => Option.bind_some ..) ?_
    refine Ev.congr (fun k => Option.bind_some ..) ?_
    refine Ev.congr (fun k => if_pos (by simp only [List.length_append, putb_length, List.length_cons, List.length_nil]; omega)) ?_
    refine Ev.bind (four_spec _ s big hs.1 hs.2 (by simp only [List.length_append, putb_length, List.length_cons, List.length_nil]; omega)) ?_
    refine Ev.bind (four_spec _ k0 big hk.1 hk.2 (by simp only [List.length_append, putb_length, List.length_cons, List.length_nil]; omega)) ?_
    have he : [] ++ putb (markv nano) 4 big ++ putb 2 2 big ++ putb 4 2 big ++ [0, 0, 0, 0, 0, 0, 0, 0] ++ putb s 4 big ++ putb k0 4 big = headb big nano s k0 := by
      rw [zeros8 big]
      unfold headb laidb
      simp
    rw [he]
    exact Ev.now _
  unfold umpireref09_Header.f
  cases nano with
  | false => exact Ev.congr (fun k => if_neg (by decide)) hj
  | true => exact Ev.congr (fun k => if_pos rfl) hj
theorem rcapput_spec (big nano : Bool) (s k0 : Int) (l : List S46) (hm : l.length ≤ 4611686018427387904) (hg : ∀ r ∈ l, Good r) (hs : 0 ≤ s ∧ s < 4294967296) (hk : 0 ≤ k0 ∧ k0 < 4294967296) (hc : capn l ≤ 140000000) :
    Ev (fun k => umpireref09_Put.f k big nano s k0 l) (capv big (headb big nano s k0) l) := by
  have hh := headb_length big nano s k0
  have hloop := rput_loop9 big nano s k0 l hm hg l.length 0 (headb big nano s k0) (by omega) (by omega) (by rw [List.drop_zero]; omega)
  rw [List.drop_zero] at hloop
  unfold umpireref09_Put.f
  exact Ev.bind (rhead_spec big nano s k0 hs hk) hloop
end Go.Proofs.Ytnjimecjpnjojaa.Q

/- A capture that was put, cut off somewhere and read. -/
namespace Go.Proofs.Ytnjimecjpnjojaa.Q
open Go.RowKit Go.Proofs.Ytnjimecjpnjojaa.Print Go.Proofs.YtnjimecjpnjojaaW.PrintWords Go.Proofs.YtnjimecjpnjojaaW.PrintLast Go.Proofs.YtnjimecjpnjojaaW.PrintMore
set_option linter.unusedVariables false
theorem numv_at (p x q : List Int) (big : Bool) : numv (p ++ x ++ q) p.length x.length big = getv x big := by
  unfold numv
  rw [show p.length + x.length = (p ++ x).length from (List.length_append).symm, List.take_left, List.drop_left]
theorem numv_at' {l : List Int} {a n : Nat} (p x q : List Int) (big : Bool) (hl : l = p ++ x ++ q) (ha : a = p.length) (hn : n = x.length) : numv l a n big = getv x big := by
  subst hl ha hn
  exact numv_at p x q big
theorem numv_take (L : List Int) (m a n : Nat) (big : Bool) (h : a + n ≤ m) : numv (L.take m) a n big = numv L a n big := by
  unfold numv
  rw [List.take_take, Nat.min_eq_left h]
theorem getv_put4 (n : Int) (big : Bool) (h0 : 0 ≤ n) (h1 : n < 4294967296) : getv (putb n 4 big) big = n := getv_putb n 4 big h0 (by rw [p256_4]; exact h1)
def Fine (r : S46) : Prop := Q.Good r ∧ (r.f3.length : Int) ≤ 131072
theorem recb_eq (big : Bool) (r : S46) : recb big r = putb r.f0 4 big ++ (putb r.f1 4 big ++ (putb (r.f3.length : Int) 4 big ++ (putb r.f2 4 big ++ r.f3))) := by
  unfold recb laidb
  simp
theorem recb_length (big : Bool) (r : S46) : (recb big r).length = 16 + r.f3.length := by
  unfold recb
  rw [List.length_append, laidb_length]
  rfl
theorem rec_num (big : Bool) (r : S46) (q : List Int) (h : Fine r) :
    numv (recb big r ++ q) 0 4 big = r.f0 ∧ numv (recb big r ++ q) 4 4 big = r.f1 ∧ numv (recb big r ++ q) 8 4 big = r.f3.length ∧ numv (recb big r ++ q) 12 4 big = r.f2 := by
  obtain ⟨⟨g0, g1, g2⟩, hl⟩ := h
  rw [recb_eq]
  refine ⟨?_, ?_, ?_, ?_⟩
  · refine (numv_at' [] (putb r.f0 4 big) (putb r.f1 4 big ++ (putb (r.f3.length : Int) 4 big ++ (putb r.f2 4 big ++ r.f3)) ++ q) big (by simp) rfl (putb_length ..).symm).trans ?_
    exact getv_put4 _ _ g0.1 g0.2
  · refine (numv_at' (putb r.f0 4 big) (putb r.f1 4 big) (putb (r.f3.length : Int) 4 big ++ (putb r.f2 4 big ++ r.f3) ++ q) big (by simp) (putb_length ..).symm (putb_length ..).symm).trans ?_
    exact getv_put4 _ _ g1.1 g1.2
  · refine (numv_at' (putb r.f0 4 big ++ putb r.f1 4 big) (putb (r.f3.length : Int) 4 big) (putb r.f2 4 big ++ r.f3 ++ q) big (by simp) (by rw [List.length_append, putb_length, putb_length]) (putb_length ..).symm).trans ?_
    exact getv_put4 _ _ (by omega) (by omega)
  · refine (numv_at' (putb r.f0 4 big ++ putb r.f1 4 big ++ putb (r.f3.length : Int) 4 big) (putb r.f2 4 big) (r.f3 ++ q) big (by simp) (by rw [List.length_append, List.length_append, putb_length, putb_length, putb_length]) (putb_length ..).symm).trans ?_
    exact getv_put4 _ _ g2.1 g2.2
theorem nextv_rec (big : Bool) (r : S46) (q : List Int) (h : Fine r) : nextv (recb big r ++ q) big = (r.f0, r.f1, r.f2, r.f3, 16 + (r.f3.length : Int), 0) := by
  obtain ⟨e0, e1, e2, e3⟩ := rec_num big r q h
  have hl := recb_length big r
  unfold nextv
  rw [e0, e1, e2, e3, if_neg (by rw [List.length_append]; omega), if_neg (by have := h.2; omega), if_neg (by rw [List.length_append]; omega)]
  have hd : ((recb big r ++ q).drop 16).take (r.f3.length : Int).toNat = r.f3 := by
    rw [Int.toNat_natCast]
    unfold recb
    rw [List.append_assoc, List.drop_left' (by rw [laidb_length]; rfl), List.take_left]
  rw [hd]
theorem nextv_cut (big : Bool) (r : S46) (q : List Int) (h : Fine r) (m : Nat) (hm : m < 16 + r.f3.length) : nextv ((recb big r ++ q).take m) big = (0, 0, 0, [], 0, 2) := by
  have hl := recb_length big r
  have hlen : ((recb big r ++ q).take m).length = m := by rw [List.length_take, List.length_append]; omega
  unfold nextv
  by_cases h1 : m < 16
  · rw [if_pos (by omega)]
  · rw [if_neg (by omega), numv_take _ _ _ _ _ (by omega), (rec_num big r q h).2.2.1, if_neg (by have := h.2; omega), if_pos (by omega)]
/-- How many records stand wholly ahead of a place, and where the next one begins. -/
def cutj : List S46 → Nat → Nat → Nat × Nat
  | [], i, _ => (0, i)
  | r :: m, i, n => if i + 16 + r.f3.length ≤ n then ((cutj m (i + 16 + r.f3.length) n).1 + 1, (cutj m (i + 16 + r.f3.length) n).2) else (0, i)
theorem readw_cut (big : Bool) (n : Nat) (b : List Int) (hn : n < b.length) : ∀ (m : List S46) (i : Nat) (acc : List S46) (f : Nat), (∀ r ∈ m, Fine r) → b.drop i = (m.map (recb big)).flatten → i ≤ n → n < i + f →
    readw big f (b.take n) acc i = (acc ++ m.take (cutj m i n).1, if (cutj m i n).2 < n then (((cutj m i n).2 : Int), (2 : Int)) else (0, 0))
  | [], i, acc, f, hf, hb, hi, hfu => by
    have : (b.drop i).length = 0 := by rw [hb]; rfl
    rw [List.length_drop] at this
    omega
  | r :: m, i, acc, 0, hf, hb, hi, hfu => by omega
  | r :: m, i, acc, f + 1, hf, hb, hi, hfu => by
    have hr := hf r (List.mem_cons_self ..)
    have hlen : (b.take n).length = n := by rw [List.length_take]; omega
    have hfl : ((r :: m).map (recb big)).flatten = recb big r ++ (m.map (recb big)).flatten := by rw [List.map_cons, List.flatten_cons]
    rw [hfl] at hb
    have hdt : (b.take n).drop i = (recb big r ++ (m.map (recb big)).flatten).take (n - i) := by rw [List.drop_take, hb]
    unfold readw cutj
    rw [hlen, hdt]
    by_cases h1 : i < n
    · rw [if_pos h1]
      by_cases h2 : i + 16 + r.f3.length ≤ n
      · have hsp : (recb big r ++ (m.map (recb big)).flatten).take (n - i) = recb big r ++ ((m.map (recb big)).flatten).take (n - i - (16 + r.f3.length)) := by
          rw [List.take_append, recb_length, List.take_of_length_le (by rw [recb_length]; omega)]
        rw [hsp, nextv_rec big r _ hr, if_pos rfl, if_pos h2]
        have hdb : b.drop (i + 16 + r.f3.length) = (m.map (recb big)).flatten := by
          rw [Nat.add_assoc, ← List.drop_drop, hb, List.drop_left' (recb_length big r)]
        have hsz : i + (16 + (r.f3.length : Int)).toNat = i + 16 + r.f3.length := by omega
        have ih := readw_cut big n b hn m (i + 16 + r.f3.length) (acc ++ [r]) f (fun x hx => hf x (List.mem_cons_of_mem _ hx)) hdb (by omega) (by omega)
        show readw big f (b.take n) (acc ++ [(⟨r.f0, r.f1, r.f2, r.f3⟩ : S46)]) (i + (16 + (r.f3.length : Int)).toNat) = _
        rw [hsz]
        show readw big f (b.take n) (acc ++ [r]) (i + 16 + r.f3.length) = _
        rw [ih]
        simp
      · rw [nextv_cut big r _ hr (n - i) (by omega), if_neg (by decide), if_neg h2]
        simp only [List.take_zero, List.append_nil]
        rw [if_pos h1]
    · rw [if_neg h1, if_neg (by omega)]
      simp only [List.take_zero, List.append_nil]
      rw [if_neg h1]
end Go.Proofs.Ytnjimecjpnjojaa.Q

/- Records that are the same; a header that was put, cut off somewhere and read. -/
namespace Go.Proofs.Ytnjimecjpnjojaa.Q
open Go.RowKit Go.Proofs.Ytnjimecjpnjojaa.Print Go.Proofs.YtnjimecjpnjojaaW.PrintWords Go.Proofs.YtnjimecjpnjojaaW.PrintLast Go.Proofs.YtnjimecjpnjojaaW.PrintMore
set_option linter.unusedVariables false
theorem same_loop (l : List S46) (hm : l.length ≤ 4611686018427387904) (d : Nat) : ∀ i : Nat, l.length - i = d → i ≤ l.length → Ev (fun k => umpireref09_Same.l0 k l l i) true := by
  induction d with
  | zero =>
    intro i hd hi
    refine Ev.step (fun k => by rw [umpireref09_Same.l0, if_neg (by omega)]) ?_
    exact Ev.now _
  | succ d ih =>
    intro i hd hi
    have hw : wrap64 ((i : Int) + 1) = ((i + 1 : Nat) : Int) := by rw [w64 (by omega) (by omega)]; omega
    refine Ev.step (fun k => by rw [umpireref09_Same.l0, if_pos (by omega), if_pos (by omega), if_pos (by omega), if_pos rfl, if_pos rfl, if_pos rfl, if_pos rfl, hw]) ?_
    exact ih (i + 1) (by omega) (by omega)
theorem same_refl (l : List S46) (hm : l.length ≤ 4611686018427387904) : Ev (fun k => umpireref09_Same.f k l l) true := by
  unfold umpireref09_Same.f
  exact Ev.congr (fun k => if_pos rfl) (same_loop l hm l.length 0 (by omega) (by omega))
theorem headb_eq (big nano : Bool) (s k0 : Int) : headb big nano s k0 = putb (markv nano) 4 big ++ (putb 2 2 big ++ (putb 4 2 big ++ (putb 0 4 big ++ (putb 0 4 big ++ (putb s 4 big ++ putb k0 4 big))))) := by
  unfold headb laidb
  simp
theorem head_num (big nano : Bool) (s k0 : Int) (q : List Int) (b2 : Bool) : numv (headb big nano s k0 ++ q) 0 4 b2 = getv (putb (markv nano) 4 big) b2 := by
  rw [headb_eq]
  exact numv_at' [] (putb (markv nano) 4 big) (putb 2 2 big ++ (putb 4 2 big ++ (putb 0 4 big ++ (putb 0 4 big ++ (putb s 4 big ++ putb k0 4 big)))) ++ q) b2 (by simp) rfl (putb_length ..).symm
theorem orderv_head (big nano : Bool) (s k0 : Int) (q : List Int) (n : Nat) (h : 4 ≤ n) : orderv ((headb big nano s k0 ++ q).take n) = (big, nano, 0, 0, true) := by
  unfold orderv
  rw [numv_take _ _ _ _ _ (by omega), numv_take _ _ _ _ _ (by omega), head_num, head_num]
  cases big <;> cases nano <;> decide
theorem headv_cut (big nano : Bool) (s k0 : Int) (q : List Int) (n : Nat) (hn : n ≤ (headb big nano s k0 ++ q).length) (h : n < 24) : headv ((headb big nano s k0 ++ q).take n) = (false, false, 0, 0, 2) := by
  have hl : ((headb big nano s k0 ++ q).take n).length = n := by rw [List.length_take]; omega
  unfold headv
  rw [hl]
  by_cases h4 : n < 4
  · rw [if_pos h4]
  · rw [if_neg h4, orderv_head big nano s k0 q n (by omega), if_neg (by simp), if_pos h]
theorem headv_whole (big nano : Bool) (s k0 : Int) (hs : 0 ≤ s ∧ s < 4294967296) (hk : 0 ≤ k0 ∧ k0 < 4294967296) (q : List Int) (n : Nat) (hn : n ≤ (headb big nano s k0 ++ q).length) (h : 24 ≤ n) : headv ((headb big nano s k0 ++ q).take n) = (big, nano, s, k0, 0) := by
  have hl : ((headb big nano s k0 ++ q).take n).length = n := by rw [List.length_take]; omega
  have hd : ((headb big nano s k0 ++ q).take n).drop 4 = (putb 2 2 big ++ (putb 4 2 big ++ (putb 0 4 big ++ (putb 0 4 big ++ (putb s 4 big ++ putb k0 4 big)))) ++ q).take (n - 4) := by
    rw [List.drop_take, headb_eq, List.append_assoc, List.drop_left' (putb_length ..)]
  have e1 : numv (((headb big nano s k0 ++ q).take n).drop 4) 0 2 big = 2 := by
    rw [hd, numv_take _ _ _ _ _ (by omega)]
    refine (numv_at' [] (putb 2 2 big) (putb 4 2 big ++ (putb 0 4 big ++ (putb 0 4 big ++ (putb s 4 big ++ putb k0 4 big))) ++ q) big (by simp) rfl (putb_length ..).symm).trans ?_
    exact getv_putb 2 2 big (by decide) (by decide)
  have e2 : numv (((headb big nano s k0 ++ q).take n).drop 4) 12 4 big = s := by
    rw [hd, numv_take _ _ _ _ _ (by omega)]
    refine (numv_at' (putb 2 2 big ++ putb 4 2 big ++ putb 0 4 big ++ putb 0 4 big) (putb s 4 big) (putb k0 4 big ++ q) big (by simp) (by simp only [List.length_append, putb_length]) (putb_length ..).symm).trans ?_
    exact getv_put4 _ _ hs.1 hs.2
  have e3 : numv (((headb big nano s k0 ++ q).take n).drop 4) 16 4 big = k0 := by
    rw [hd, numv_take _ _ _ _ _ (by omega)]
    refine (numv_at' (putb 2 2 big ++ putb 4 2 big ++ putb 0 4 big ++ putb 0 4 big ++ putb s 4 big) (putb k0 4 big) q big (by simp) (by simp only [List.length_append, putb_length]) (putb_length ..).symm).trans ?_
    exact getv_put4 _ _ hk.1 hk.2
  unfold headv
  rw [hl, if_neg (by omega), orderv_head big nano s k0 q n (by omega), if_neg (by simp), if_neg (by omega)]
  show (if numv (((headb big nano s k0 ++ q).take n).drop 4) 0 2 big ≠ 2 then _ else _) = _
  rw [e1, if_neg (by decide)]
  show (big, nano, numv (((headb big nano s k0 ++ q).take n).drop 4) 12 4 big, numv (((headb big nano s k0 ++ q).take n).drop 4) 16 4 big, (0 : Int)) = _
  rw [e2, e3]
/-- A capture, where no record is too long. -/
theorem capv_cases (big : Bool) (l : List S46) (y : List Int) : ((∀ r ∈ l, (r.f3.length : Int) ≤ 131072) ∧ capv big y l = (y ++ (l.map (recb big)).flatten, 0)) ∨ capv big y l = ([], 4) := by
  induction l generalizing y with
  | nil => exact .inl ⟨by simp, by simp [capv]⟩
  | cons r l ih =>
    unfold capv
    by_cases h : (r.f3.length : Int) > 131072
    · rw [if_pos h]; exact .inr rfl
    · rw [if_neg h]
      rcases ih (y ++ recb big r) with ⟨h1, h2⟩ | h2
      · refine .inl ⟨?_, by rw [h2]; simp⟩
        intro x hx
        rcases List.mem_cons.1 hx with rfl | hx
        · omega
        · exact h1 x hx
      · exact .inr h2
end Go.Proofs.Ytnjimecjpnjojaa.Q

/- The reference's reading of a capture's header, and of a capture. -/
namespace Go.Proofs.Ytnjimecjpnjojaa.Q
open Go.RowKit Go.Proofs.Ytnjimecjpnjojaa.Print Go.Proofs.YtnjimecjpnjojaaW.PrintWords Go.Proofs.YtnjimecjpnjojaaW.PrintLast Go.Proofs.YtnjimecjpnjojaaW.PrintMore
set_option linter.unusedVariables false
theorem seg_append (l : List Int) (a b c : Nat) (h1 : a ≤ b) (h2 : b ≤ c) (h3 : b ≤ l.length) : (l.take b).drop a ++ (l.take c).drop b = (l.take c).drop a := by
  have h : l.take c = l.take b ++ (l.take c).drop b := by
    have := (List.take_append_drop b (l.take c)).symm
    rw [List.take_take, Nat.min_eq_left h2] at this
    exact this
  have h2 : (l.take c).drop a = (l.take b ++ (l.take c).drop b).drop a := congrArg (List.drop a) h
  rw [h2, List.drop_append_of_le_length (by rw [List.length_take]; omega)]
theorem putb_numv (l : List Int) (hb : Bytes l) (a n : Nat) (big : Bool) (h : a + n ≤ l.length) : putb (numv l a n big) n big = (l.take (a + n)).drop a := by
  have hl := num_len l a n h
  have := putb_getv ((l.take (a + n)).drop a) big ((hb.take _).drop _)
  rw [hl] at this
  exact this
theorem numv_drop (l : List Int) (d a n : Nat) (big : Bool) : numv (l.drop d) a n big = numv l (d + a) n big := by
  unfold numv
  rw [List.take_drop, List.drop_drop, Nat.add_assoc]
/-- The mark with which bytes begin. -/
theorem mark_iff (l : List Int) (hb : Bytes l) (h : 4 ≤ l.length) (b n : Bool) : (numv l 0 4 b = markv n) ↔ l.take 4 = putb (markv n) 4 b := by
  have h1 := putb_numv l hb 0 4 b (by omega)
  rw [Nat.zero_add, List.drop_zero] at h1
  constructor
  · intro e
    rw [← h1, e]
  · intro e
    have hr := markv_range n
    have : numv l 0 4 b = getv (l.take 4) b := by unfold numv; rw [Nat.zero_add, List.drop_zero]
    rw [this, e]
    exact getv_put4 _ _ hr.1 hr.2
theorem markv_t : markv true = 2712812621 := rfl
theorem markv_f : markv false = 2712847316 := rfl
theorem orderv_mark (l : List Int) (hb : Bytes l) (h : 4 ≤ l.length) : orderv l =
    if l.take 4 = putb (markv false) 4 false then (false, false, 0, 0, true) else if l.take 4 = putb (markv true) 4 false then (false, true, 0, 0, true) else
    if l.take 4 = putb (markv false) 4 true then (true, false, 0, 0, true) else if l.take 4 = putb (markv true) 4 true then (true, true, 0, 0, true) else (false, false, 0, 0, false) := by
  unfold orderv
  rw [← markv_f, ← markv_t]
  simp only [mark_iff l hb h]
def tailv (l : List Int) (b n : Bool) : Bool × Bool × Int × Int × Int :=
  if l.length < 24 then (false, false, 0, 0, 2) else if numv l 4 2 b = 2 then (b, n, numv l 16 4 b, numv l 20 4 b, 0) else (false, false, 0, 0, 3)
theorem tail_spec (l : List Int) (hb : Bytes l) (hm : l.length ≤ 4611686018427387904) (b n : Bool) : Ev (fun k => umpireref09_Head.tail k l b n) (tailv l b n) := by
  unfold umpireref09_Head.tail tailv
  by_cases h : l.length < 24
  · rw [if_pos h]
    exact Ev.congr (fun k => if_pos (by omega)) (Ev.now _)
  · rw [if_neg h]
    refine Ev.congr (fun k => if_neg (by omega)) ?_
    have hg := rget_spec ((l.take 6).drop 4) ((hb.take _).drop _) (by rw [List.length_drop, List.length_take]; omega) b
    refine Ev.bind hg ?_
    show Ev _ (if numv l 4 2 b = 2 then _ else _)
    have he : getv ((l.take 6).drop 4) b = numv l 4 2 b := rfl
    rw [he]
    by_cases h2 : numv l 4 2 b = 2
    · rw [if_pos h2]
      refine Ev.congr (fun k => if_pos h2) ?_
      refine Ev.bind (rnum_spec l hb 16 b hm (by omega)) ?_
      refine Ev.bind (rnum_spec l hb 20 b hm (by omega)) ?_
      exact Ev.now _
    · rw [if_neg h2]
      exact Ev.congr (fun k => if_neg h2) (Ev.now _)
def tryv (l : List Int) : Nat → Nat → Bool × Bool × Int × Int × Int
  | 0, _ => (false, false, 0, 0, 3)
  | d + 1, j => if l.take 4 = putb (markv ((j : Int) / 2 == 1)) 4 ((j : Int) % 2 == 1) then tailv l ((j : Int) % 2 == 1) ((j : Int) / 2 == 1) else tryv l d (j + 1)
theorem try_spec (l : List Int) (hb : Bytes l) (hm : l.length ≤ 4611686018427387904) (d : Nat) : ∀ j : Nat, Ev (fun k => umpireref09_Head.try_ k l d j) (tryv l d j) := by
  induction d with
  | zero => intro j; exact Ev.now _
  | succ d ih =>
    intro j
    unfold umpireref09_Head.try_ tryv
    generalize ((j : Int) / 2 == 1) = n
    generalize ((j : Int) % 2 == 1) = b
    refine Ev.bind (rhead_spec b n 0 0 (by decide) (by decide)) ?_
    refine Ev.congr (fun k => if_pos (by rw [headb_length]; decide)) ?_
    have ht : (headb b n 0 0).take 4 = putb (markv n) 4 b := by rw [headb_eq, List.take_left' (putb_length ..)]
    rw [ht]
    by_cases h : l.take 4 = putb (markv n) 4 b
    · rw [if_pos h]
      exact Ev.congr (fun k => if_pos (by rw [h])) (tail_spec l hb hm b n)
    · rw [if_neg h]
      exact Ev.congr (fun k => if_neg (fun e => h (strOf_inj (putb_bytes _ _ _) (hb.take 4) e).symm)) (ih _)
theorem rhead09_spec (l : List Int) (hb : Bytes l) (hm : l.length ≤ 4611686018427387904) : Ev (fun k => umpireref09_Head.f k l) (headv l) := by
  unfold umpireref09_Head.f headv
  by_cases h : l.length < 4
  · rw [if_pos h]
    exact Ev.congr (fun k => if_pos (by omega)) (Ev.now _)
  · rw [if_neg h]
    refine Ev.congr (fun k => if_neg (by omega)) ?_
    have hs := try_spec l hb hm 4 0
    suffices he : tryv l 4 0 = (if (orderv l).2.2.2.2 = false then (false, false, 0, 0, 3) else if l.length < 24 then (false, false, 0, 0, 2) else if numv (l.drop 4) 0 2 (orderv l).1 ≠ 2 then (false, false, 0, 0, 3) else ((orderv l).1, (orderv l).2.1, numv (l.drop 4) 12 4 (orderv l).1, numv (l.drop 4) 16 4 (orderv l).1, 0)) by
      rw [← he]; exact hs
    rw [orderv_mark l hb (by omega)]
    simp only [numv_drop]
    simp only [tryv]
    have e0 : ((((0 : Nat) : Int)) % 2 == 1) = false := by decide
    have e0' : ((((0 : Nat) : Int)) / 2 == 1) = false := by decide
    have e1 : ((((0 + 1 : Nat) : Int)) % 2 == 1) = true := by decide
    have e1' : ((((0 + 1 : Nat) : Int)) / 2 == 1) = false := by decide
    have e2 : ((((0 + 1 + 1 : Nat) : Int)) % 2 == 1) = false := by decide
    have e2' : ((((0 + 1 + 1 : Nat) : Int)) / 2 == 1) = true := by decide
    have e3 : ((((0 + 1 + 1 + 1 : Nat) : Int)) % 2 == 1) = true := by decide
    have e3' : ((((0 + 1 + 1 + 1 : Nat) : Int)) / 2 == 1) = true := by decide
    rw [e0, e0', e1, e1', e2, e2', e3, e3']
    have d1 : putb (markv false) 4 true ≠ putb (markv true) 4 false := by decide
    have hgo : ∀ b n : Bool, tailv l b n = (if (true : Bool) = false then (false, false, 0, 0, 3) else if l.length < 24 then (false, false, 0, 0, 2) else if numv l (4 + 0) 2 b ≠ 2 then (false, false, 0, 0, 3) else (b, n, numv l (4 + 12) 4 b, numv l (4 + 16) 4 b, 0)) := by
      intro b n
      unfold tailv
      rw [if_neg (show ¬ ((true : Bool) = false) by decide)]
      by_cases q : l.length < 24
      · rw [if_pos q, if_pos q]
      · rw [if_neg q, if_neg q]
        by_cases q2 : numv l 4 2 b = 2
        · rw [if_pos q2, if_neg (by simpa using q2)]
        · rw [if_neg q2, if_pos (by simpa using q2)]
    by_cases p1 : l.take 4 = putb (markv false) 4 false
    · rw [if_pos p1, if_pos p1]; exact hgo _ _
    · rw [if_neg p1, if_neg p1]
      by_cases p2 : l.take 4 = putb (markv false) 4 true
      · rw [if_pos p2, if_neg (fun e => d1 (p2.symm.trans e)), if_pos p2]; exact hgo _ _
      · rw [if_neg p2]
        by_cases p3 : l.take 4 = putb (markv true) 4 false
        · rw [if_pos p3, if_pos p3]; exact hgo _ _
        · rw [if_neg p3, if_neg p3, if_neg p2]
          by_cases p4 : l.take 4 = putb (markv true) 4 true
          · rw [if_pos p4, if_pos p4]; exact hgo _ _
          · rw [if_neg p4, if_neg p4]; rfl
theorem rread_loop (l : List Int) (hb : Bytes l) (hm : l.length ≤ 3518437208000) (big b2 : Bool) (s k0 : Int) (f : Nat) : ∀ (i : Nat) (acc : List S46), l.length < i + f → i ≤ l.length → acc.length ≤ i →
    Ev (fun k => umpireref09_Read.l0 k l acc i big b2 s k0) (big, b2, s, k0, readw big f l acc i) := by
  induction f with
  | zero =>
    intro i acc h1 h2 h3
    omega
  | succ f ih =>
    intro i acc h1 h2 h3
    unfold readw
    by_cases h : i < l.length
    · rw [if_pos h]
      refine Ev.step (fun k => by rw [umpireref09_Read.l0, if_pos (by omega), if_pos (by omega), if_pos (by omega), Int.toNat_natCast]) ?_
      have hbd : Bytes (l.drop i) := hb.drop i
      have hld : (l.drop i).length = l.length - i := List.length_drop ..
      refine Ev.bind (rnext_spec (l.drop i) hbd (by omega) big) ?_
      have hsz := nextv_size (l.drop i) hbd big
      generalize nextv (l.drop i) big = r at hsz ⊢
      by_cases he : r.2.2.2.2.2 = 0
      · rw [if_pos he]
        have := hsz he
        refine Ev.congr (fun k => if_pos he) ?_
        refine Ev.congr (fun k => if_pos (by omega)) ?_
        have hw : wrap64 ((i : Int) + r.2.2.2.2.1) = ((i + r.2.2.2.2.1.toNat : Nat) : Int) := by rw [w64 (by omega) (by omega)]; omega
        rw [hw]
        exact ih _ _ (by omega) (by omega) (by rw [List.length_append]; simp only [List.length_cons, List.length_nil]; omega)
      · rw [if_neg he]
        exact Ev.congr (fun k => if_neg he) (Ev.now _)
    · rw [if_neg h]
      refine Ev.step (fun k => by rw [umpireref09_Read.l0, if_neg (by omega)]) ?_
      exact Ev.now _
theorem rread09_spec (l : List Int) (hb : Bytes l) (hm : l.length ≤ 3518437208000) : Ev (fun k => umpireref09_Read.f k l) (readv l) := by
  unfold umpireref09_Read.f readv
  refine Ev.bind (rhead09_spec l hb (by omega)) ?_
  by_cases h : (headv l).2.2.2.2 = 0
  · rw [if_pos h]
    refine Ev.congr (fun k => if_pos h) ?_
    have := headv_long l h
    exact rread_loop l hb hm _ _ _ _ (l.length + 1) 24 [] (by omega) (by omega) (by simp)
  · rw [if_neg h]
    exact Ev.congr (fun k => if_neg h) (Ev.now _)
theorem readw_length (big : Bool) (f : Nat) (l : List Int) (hb : Bytes l) : ∀ (i : Nat) (acc : List S46), i ≤ l.length → acc.length ≤ i → (readw big f l acc i).1.length ≤ l.length := by
  induction f with
  | zero => intro i acc h1 h2; show acc.length ≤ _; omega
  | succ f ih =>
    intro i acc h1 h2
    unfold readw
    by_cases h : i < l.length
    · rw [if_pos h]
      have hld : (l.drop i).length = l.length - i := List.length_drop ..
      have hsz := nextv_size (l.drop i) (hb.drop i) big
      by_cases he : (nextv (l.drop i) big).2.2.2.2.2 = 0
      · rw [if_pos he]
        have := hsz he
        exact ih _ _ (by omega) (by rw [List.length_append]; simp only [List.length_cons, List.length_nil]; omega)
      · rw [if_neg he]; show acc.length ≤ _; omega
    · rw [if_neg h]; show acc.length ≤ _; omega
theorem readv_length (l : List Int) (hb : Bytes l) : (readv l).2.2.2.2.1.length ≤ l.length := by
  unfold readv
  by_cases h : (headv l).2.2.2.2 = 0
  · rw [if_pos h]
    have := headv_long l h
    exact readw_length _ _ l hb 24 [] (by omega) (by simp)
  · rw [if_neg h]; exact Nat.zero_le _
end Go.Proofs.Ytnjimecjpnjojaa.Q

/- What pcap.Read tells, put again. -/
namespace Go.Proofs.Ytnjimecjpnjojaa.Q
open Go.RowKit Go.Proofs.Ytnjimecjpnjojaa.Print Go.Proofs.YtnjimecjpnjojaaW.PrintWords Go.Proofs.YtnjimecjpnjojaaW.PrintLast Go.Proofs.YtnjimecjpnjojaaW.PrintMore
set_option linter.unusedVariables false
theorem readw_whole (big : Bool) (b : List Int) : ∀ (m : List S46) (i : Nat) (acc : List S46) (f : Nat), (∀ r ∈ m, Fine r) → b.drop i = (m.map (recb big)).flatten → i ≤ b.length → b.length < i + f →
    readw big f b acc i = (acc ++ m, 0, 0)
  | [], i, acc, f, hf, hb, hi, hfu => by
    have : (b.drop i).length = 0 := by rw [hb]; rfl
    rw [List.length_drop] at this
    cases f with
    | zero => omega
    | succ f =>
      unfold readw
      rw [if_neg (by omega), List.append_nil]
  | r :: m, i, acc, 0, hf, hb, hi, hfu => by omega
  | r :: m, i, acc, f + 1, hf, hb, hi, hfu => by
    have hr := hf r (List.mem_cons_self ..)
    have hfl : ((r :: m).map (recb big)).flatten = recb big r ++ (m.map (recb big)).flatten := by rw [List.map_cons, List.flatten_cons]
    rw [hfl] at hb
    have hlt : i + (16 + r.f3.length) ≤ b.length := by
      have h1 : (b.drop i).length = _ := congrArg List.length hb
      rw [List.length_drop, List.length_append, recb_length] at h1
      omega
    have hdb : b.drop (i + (16 + r.f3.length)) = (m.map (recb big)).flatten := by
      rw [← List.drop_drop, hb, List.drop_left' (recb_length big r)]
    have hsz : i + (16 + (r.f3.length : Int)).toNat = i + (16 + r.f3.length) := by omega
    unfold readw
    rw [if_pos (by omega), hb, nextv_rec big r _ hr, if_pos rfl]
    show readw big f b (acc ++ [(⟨r.f0, r.f1, r.f2, r.f3⟩ : S46)]) (i + (16 + (r.f3.length : Int)).toNat) = _
    rw [hsz]
    show readw big f b (acc ++ [r]) (i + (16 + r.f3.length)) = _
    rw [readw_whole big b m (i + (16 + r.f3.length)) (acc ++ [r]) f (fun x hx => hf x (List.mem_cons_of_mem _ hx)) hdb (by omega) (by omega)]
    simp
/-- A record that is read, put again. -/
theorem nextv_back (l : List Int) (hb : Bytes l) (big : Bool) (h : (nextv l big).2.2.2.2.2 = 0) :
    ∃ r : S46, Fine r ∧ nextv l big = (r.f0, r.f1, r.f2, r.f3, 16 + (r.f3.length : Int), 0) ∧ l = recb big r ++ l.drop (16 + r.f3.length) ∧ 16 + r.f3.length ≤ l.length := by
  unfold nextv at h ⊢
  by_cases h1 : l.length < 16
  · rw [if_pos h1] at h; exact absurd h (by decide)
  · rw [if_neg h1] at h ⊢
    by_cases h2 : numv l 8 4 big > 131072
    · rw [if_pos h2] at h; exact absurd h (by decide)
    · rw [if_neg h2] at h ⊢
      by_cases h3 : (l.length : Int) < 16 + numv l 8 4 big
      · rw [if_pos h3] at h; exact absurd h (by decide)
      · rw [if_neg h3] at h ⊢
        clear h
        have r0 := numv_range l hb 0 4 big (by omega) (by omega)
        have r1 := numv_range l hb 4 4 big (by omega) (by omega)
        have r2 := numv_range l hb 8 4 big (by omega) (by omega)
        have r3 := numv_range l hb 12 4 big (by omega) (by omega)
        have hlen : ((l.drop 16).take (numv l 8 4 big).toNat).length = (numv l 8 4 big).toNat := by rw [List.length_take, List.length_drop]; omega
        have hli : (((l.drop 16).take (numv l 8 4 big).toNat).length : Int) = numv l 8 4 big := by rw [hlen]; omega
        refine ⟨⟨numv l 0 4 big, numv l 4 4 big, numv l 12 4 big, (l.drop 16).take (numv l 8 4 big).toNat⟩, ⟨⟨r0, r1, r3⟩, ?_⟩, ?_, ?_, ?_⟩
        · show (((l.drop 16).take (numv l 8 4 big).toNat).length : Int) ≤ 131072
          omega
        · show _ = (numv l 0 4 big, numv l 4 4 big, numv l 12 4 big, (l.drop 16).take (numv l 8 4 big).toNat, 16 + (((l.drop 16).take (numv l 8 4 big).toNat).length : Int), 0)
          rw [hli]
        · rw [recb_eq]
          show l = putb (numv l 0 4 big) 4 big ++ (putb (numv l 4 4 big) 4 big ++ (putb (((l.drop 16).take (numv l 8 4 big).toNat).length : Int) 4 big ++ (putb (numv l 12 4 big) 4 big ++ (l.drop 16).take (numv l 8 4 big).toNat))) ++ l.drop (16 + ((l.drop 16).take (numv l 8 4 big).toNat).length)
          rw [hli, hlen, putb_numv l hb 0 4 big (by omega), putb_numv l hb 4 4 big (by omega), putb_numv l hb 8 4 big (by omega), putb_numv l hb 12 4 big (by omega)]
          have s1 := seg_append l 0 4 8 (by omega) (by omega) (by omega)
          have s2 := seg_append l 0 8 12 (by omega) (by omega) (by omega)
          have s3 := seg_append l 0 12 16 (by omega) (by omega) (by omega)
          have s4 : (l.drop 16).take (numv l 8 4 big).toNat ++ l.drop (16 + (numv l 8 4 big).toNat) = l.drop 16 := by
            rw [← List.drop_drop, List.take_append_drop]
          simp only [List.append_assoc, s4]
          simp only [← List.append_assoc]
          rw [s1, s2, s3, List.drop_zero, List.take_append_drop]
        · show 16 + ((l.drop 16).take (numv l 8 4 big).toNat).length ≤ l.length
          omega
theorem readw_back (big : Bool) (f : Nat) (l : List Int) (hb : Bytes l) : ∀ (i : Nat) (acc : List S46), i ≤ l.length → l.length < i + f →
    ((readw big f l acc i).2 = (0, 0) ∧ ∃ m, (readw big f l acc i).1 = acc ++ m ∧ (∀ r ∈ m, Fine r) ∧ l.drop i = (m.map (recb big)).flatten) ∨ ((readw big f l acc i).2.2 ≠ 0 ∧ (readw big f l acc i).2.1 ≤ l.length) := by
  induction f with
  | zero => intro i acc h1 h2; omega
  | succ f ih =>
    intro i acc h1 h2
    unfold readw
    by_cases h : i < l.length
    · rw [if_pos h]
      have hld : (l.drop i).length = l.length - i := List.length_drop ..
      by_cases he : (nextv (l.drop i) big).2.2.2.2.2 = 0
      · rw [if_pos he]
        obtain ⟨r, hf, hn, hl, hle⟩ := nextv_back (l.drop i) (hb.drop i) big he
        rw [hn]
        have hsz : i + (16 + (r.f3.length : Int)).toNat = i + (16 + r.f3.length) := by omega
        show ((readw big f l (acc ++ [r]) (i + (16 + (r.f3.length : Int)).toNat)).2 = _ ∧ _) ∨ _
        rw [hsz]
        rcases ih (i + (16 + r.f3.length)) (acc ++ [r]) (by omega) (by omega) with ⟨h3, m, h4, h5, h6⟩ | ⟨h3, h4⟩
        · refine .inl ⟨h3, r :: m, ?_, ?_, ?_⟩
          · show (readw big f l (acc ++ [r]) (i + (16 + (r.f3.length : Int)).toNat)).1 = _
            rw [hsz, h4]; simp
          · intro x hx
            rcases List.mem_cons.1 hx with rfl | hx
            · exact hf
            · exact h5 x hx
          · rw [List.map_cons, List.flatten_cons, ← h6, ← List.drop_drop]; exact hl
        · refine .inr ?_
          show (readw big f l (acc ++ [r]) (i + (16 + (r.f3.length : Int)).toNat)).2.2 ≠ 0 ∧ (readw big f l (acc ++ [r]) (i + (16 + (r.f3.length : Int)).toNat)).2.1 ≤ _
          rw [hsz]
          exact ⟨h3, h4⟩
      · rw [if_neg he]
        exact .inr ⟨he, by show (i : Int) ≤ l.length; omega⟩
    · rw [if_neg h]
      refine .inl ⟨rfl, [], by simp, by simp, ?_⟩
      rw [List.drop_eq_nil_of_le (by omega)]; rfl
/-- A capture that is read without a fault. -/
theorem headv_back (l : List Int) (hb : Bytes l) (h : (headv l).2.2.2.2 = 0) :
    24 ≤ l.length ∧ l.take 6 = (headb (headv l).1 (headv l).2.1 (headv l).2.2.1 (headv l).2.2.2.1).take 6 ∧ (l.take 24).drop 16 = (headb (headv l).1 (headv l).2.1 (headv l).2.2.1 (headv l).2.2.2.1).drop 16 ∧
      (0 ≤ (headv l).2.2.1 ∧ (headv l).2.2.1 < 4294967296) ∧ (0 ≤ (headv l).2.2.2.1 ∧ (headv l).2.2.2.1 < 4294967296) := by
  have h24 := headv_long l h
  unfold headv at h ⊢
  by_cases h1 : l.length < 4
  · omega
  · rw [if_neg h1] at h ⊢
    have hom := orderv_mark l hb (by omega)
    by_cases h2 : (orderv l).2.2.2.2 = false
    · rw [if_pos h2] at h; exact absurd h (by decide)
    · rw [if_neg h2] at h ⊢
      rw [if_neg (show ¬ l.length < 24 by omega)] at h ⊢
      by_cases h3 : numv (l.drop 4) 0 2 (orderv l).1 ≠ 2
      · rw [if_pos h3] at h; exact absurd h (by decide)
      · rw [if_neg h3]
        clear h
        have h3' : numv (l.drop 4) 0 2 (orderv l).1 = 2 := by simpa using h3
        have hmk : l.take 4 = putb (markv (orderv l).2.1) 4 (orderv l).1 := by
          rw [hom] at h2 ⊢
          by_cases p1 : l.take 4 = putb (markv false) 4 false
          · rw [if_pos p1]; exact p1
          · rw [if_neg p1] at h2 ⊢
            by_cases p2 : l.take 4 = putb (markv true) 4 false
            · rw [if_pos p2]; exact p2
            · rw [if_neg p2] at h2 ⊢
              by_cases p3 : l.take 4 = putb (markv false) 4 true
              · rw [if_pos p3]; exact p3
              · rw [if_neg p3] at h2 ⊢
                by_cases p4 : l.take 4 = putb (markv true) 4 true
                · rw [if_pos p4]; exact p4
                · rw [if_neg p4] at h2; exact absurd rfl h2
        rw [numv_drop] at h3'
        simp only [numv_drop]
        generalize (orderv l).1 = b at h3' hmk ⊢
        generalize (orderv l).2.1 = n at hmk ⊢
        have q1 := putb_numv l hb (4 + 0) 2 b (by omega)
        have q2 := putb_numv l hb (4 + 12) 4 b (by omega)
        have q3 := putb_numv l hb (4 + 16) 4 b (by omega)
        have r2 := numv_range l hb (4 + 12) 4 b (by omega) (by omega)
        have r3 := numv_range l hb (4 + 16) 4 b (by omega) (by omega)
        rw [h3'] at q1
        refine ⟨h24, ?_, ?_, r2, r3⟩
        · have hh : (headb b n (numv l (4 + 12) 4 b) (numv l (4 + 16) 4 b)).take 6 = putb (markv n) 4 b ++ putb 2 2 b := by
            rw [headb_eq, ← List.append_assoc, List.take_left' (by rw [List.length_append, putb_length, putb_length])]
          show l.take 6 = (headb b n (numv l (4 + 12) 4 b) (numv l (4 + 16) 4 b)).take 6
          rw [hh, ← hmk, q1]
          have s1 := seg_append l 0 4 6 (by omega) (by omega) (by omega)
          exact s1.symm
        · have hh : (headb b n (numv l (4 + 12) 4 b) (numv l (4 + 16) 4 b)).drop 16 = putb (numv l (4 + 12) 4 b) 4 b ++ putb (numv l (4 + 16) 4 b) 4 b := by
            rw [headb_eq, show putb (markv n) 4 b ++ (putb 2 2 b ++ (putb 4 2 b ++ (putb 0 4 b ++ (putb 0 4 b ++ (putb (numv l (4 + 12) 4 b) 4 b ++ putb (numv l (4 + 16) 4 b) 4 b))))) = (putb (markv n) 4 b ++ putb 2 2 b ++ putb 4 2 b ++ putb 0 4 b ++ putb 0 4 b) ++ (putb (numv l (4 + 12) 4 b) 4 b ++ putb (numv l (4 + 16) 4 b) 4 b) by simp, List.drop_left' (by simp only [List.length_append, putb_length])]
          show (l.take 24).drop 16 = (headb b n (numv l (4 + 12) 4 b) (numv l (4 + 16) 4 b)).drop 16
          rw [hh, q2, q3]
          exact (seg_append l 16 20 24 (by omega) (by omega) (by omega)).symm
end Go.Proofs.Ytnjimecjpnjojaa.Q

/- Records that are few: the reference's answer, and what it says of their bytes. -/
namespace Go.Proofs.Ytnjimecjpnjojaa.Q
open Go.RowKit Go.Proofs.Ytnjimecjpnjojaa.Print Go.Proofs.YtnjimecjpnjojaaW.PrintWords Go.Proofs.YtnjimecjpnjojaaW.PrintLast Go.Proofs.YtnjimecjpnjojaaW.PrintMore
set_option linter.unusedVariables false
def sumv : List S46 → Int
  | [] => 0
  | r :: l => mn (r.f3.length : Int) 200000 + sumv l
theorem mn_le (a b : Int) : mn a b ≤ a ∧ mn a b ≤ b ∧ (mn a b = a ∨ mn a b = b) := by unfold mn; split <;> omega
theorem sumv_nonneg (l : List S46) : 0 ≤ sumv l := by
  induction l with
  | nil => exact Int.le_refl _
  | cons r l ih =>
    have := mn_le (r.f3.length : Int) 200000
    unfold sumv
    omega
theorem sumv_capn (l : List S46) (h : sumv l ≤ 140000) : (capn l : Int) = 16 * l.length + sumv l := by
  induction l with
  | nil => rfl
  | cons r l ih =>
    have := mn_le (r.f3.length : Int) 200000
    have h0 := sumv_nonneg l
    unfold sumv at h ⊢
    unfold capn
    have := ih (by omega)
    rw [List.length_cons]
    omega
def fewv (l : List S46) : Bool := decide (l.length ≤ 50) && decide (sumv l ≤ 140000)
theorem few_loop (l : List S46) (hm : l.length ≤ 4611686018427387904) (d : Nat) : ∀ (i : Nat) (acc : Int), min l.length 100 - i = d → i ≤ min l.length 100 → 0 ≤ acc → acc ≤ i * 200000 → (l.length ≤ 50 → acc + sumv (l.drop i) = sumv l) →
    Ev (fun k => umpireref09_Few.l0 k l acc i) (fewv l) := by
  induction d with
  | zero =>
    intro i acc hd hi h0 h1 hs
    by_cases hn : l.length ≤ 50
    · obtain rfl : i = l.length := by omega
      have := hs hn
      rw [List.drop_length, show sumv ([] : List S46) = 0 from rfl, Int.add_zero] at this
      have e : acc = sumv l := this
      refine Ev.step (fun k => by rw [umpireref09_Few.l0, if_neg (by omega), if_pos (by omega)]) ?_
      unfold fewv
      rw [e, decide_eq_true hn, Bool.true_and]
      exact Ev.now _
    · unfold fewv
      rw [decide_eq_false hn, Bool.false_and]
      by_cases hl : (i : Int) < l.length
      · refine Ev.step (fun k => by rw [umpireref09_Few.l0, if_pos hl, if_neg (by omega), if_neg (by omega)]) ?_
        exact Ev.now _
      · refine Ev.step (fun k => by rw [umpireref09_Few.l0, if_neg hl, if_neg (by omega)]) ?_
        exact Ev.now _
  | succ d ih =>
    intro i acc hd hi h0 h1 hs
    have hlt : i < l.length := by omega
    have e1 := rdT_get l i hlt
    have hmn := mn_le (l[i].f3.length : Int) 200000
    have hw : wrap64 ((i : Int) + 1) = ((i + 1 : Nat) : Int) := by rw [w64 (by omega) (by omega)]; omega
    have hw2 : wrap64 (acc + mn (l[i].f3.length : Int) 200000) = acc + mn (l[i].f3.length : Int) 200000 := w64 (by omega) (by omega)
    refine Ev.step (fun k => by rw [umpireref09_Few.l0, if_pos (by omega), if_pos (by omega), if_pos (by omega), e1, hw, hw2]) ?_
    refine ih (i + 1) _ (by omega) (by omega) (by omega) (by omega) (fun hn => ?_)
    have hdr : l.drop i = l[i] :: l.drop (i + 1) := List.drop_eq_getElem_cons hlt
    have := hs hn
    rw [hdr, show sumv (l[i] :: l.drop (i + 1)) = mn (l[i].f3.length : Int) 200000 + sumv (l.drop (i + 1)) from rfl] at this
    omega
theorem few_spec (l : List S46) (hm : l.length ≤ 4611686018427387904) : Ev (fun k => umpireref09_Few.f k l) (fewv l) := by
  unfold umpireref09_Few.f
  exact few_loop l hm _ 0 0 rfl (by omega) (by omega) (by omega) (fun _ => by rw [List.drop_zero]; omega)
theorem few_capn (l : List S46) (h : fewv l = true) : capn l ≤ 140000000 := by
  unfold fewv at h
  simp only [Bool.and_eq_true, decide_eq_true_eq] at h
  have := sumv_capn l h.2
  omega
end Go.Proofs.Ytnjimecjpnjojaa.Q

/- The anchor of pcap's laws answers true. -/
namespace Go.Proofs.Ytnjimecjpnjojaa.Pure
open Go.RowKit Go.Proofs.Ytnjimecjpnjojaa.Print Go.Proofs.Ytnjimecjpnjojaa.Q Go.Proofs.YtnjimecjpnjojaaW.PrintWords Go.Proofs.YtnjimecjpnjojaaW.PrintLast Go.Proofs.YtnjimecjpnjojaaW.PrintMore

theorem awake_pcap : Ev (fun k => umpirelaw09_awake.f k) true := Ev.of (fun k => umpirelaw09_awake.mono k) (k := 60) (by decide +kernel)
end Go.Proofs.Ytnjimecjpnjojaa.Pure

/- What came in as data, read as values: one lemma a kind. -/
namespace Go.Proofs.Ytnjimecjpnjojaa.Q
open Go Go.RowKit Go.ChangeShapes Go.WideShapes Go.Deep Go.Proofs.YtnjimecjpnjojaaW.PrintWords Go.Proofs.YtnjimecjpnjojaaW.PrintLast Go.Proofs.YtnjimecjpnjojaaW.PrintMore
set_option linter.unusedVariables false

/-- A datum of type t, read as a kind's value; Wf: what is told of it. -/
def Opens {α : Type} (P : Program) (t : TypeId) (d : Kd α) (Wf : α → Prop) : Prop :=
  ∀ (H : Type) (enc : TypeId × Value → H) (w : World) (base : Nat) (held : Bool) (fuel : Nat) (cs : List Value) (x : DataW H × List MemPlace),
    DataW.trod enc P w base (fun _ => true) held fuel t cs = some x → (x.1.weights P t).all (· ≤ reachBytes) = true → ∃ a, d.K w a cs ∧ Wf a

theorem Opens.imp {α : Type} {P : Program} {t : TypeId} {d : Kd α} {Wf Wf' : α → Prop} (h : Opens P t d Wf) (hi : ∀ a, Wf a → Wf' a) : Opens P t d Wf' := by
  intro H enc w base held fuel cs x hx hw
  obtain ⟨a, h1, h2⟩ := h H enc w base held fuel cs x hx hw
  exact ⟨a, h1, hi a h2⟩

theorem Opens.int {P : Program} {t : TypeId} {k : IntKind} (ht : P.underlying t = some (.int k)) : Opens P t (Kd.int k) (fun a => (Lit.int k a).wf = true) := by
  intro H enc w base held fuel cs x h _
  cases fuel with
  | zero => cases h
  | succ fuel =>
    match cs with
    | [.int k' n] =>
      simp only [DataW.trod, ht] at h
      by_cases hk : k' = k ∧ (Lit.int k n).wf = true
      · obtain ⟨rfl, hw⟩ := hk
        exact ⟨n, rfl, hw⟩
      · rw [if_neg hk] at h
        cases h
    | [] => simp [DataW.trod, ht] at h
    | v :: u :: r => simp [DataW.trod, ht] at h
    | [.bool _] => simp [DataW.trod, ht] at h
    | [.float _ _] => simp [DataW.trod, ht] at h
    | [.complex _ _ _] => simp [DataW.trod, ht] at h
    | [.string _] => simp [DataW.trod, ht] at h
    | [.pointer _] => simp [DataW.trod, ht] at h
    | [.slice _ _ _] => simp [DataW.trod, ht] at h
    | [.map _] => simp [DataW.trod, ht] at h
    | [.chan _] => simp [DataW.trod, ht] at h
    | [.func _ _ _] => simp [DataW.trod, ht] at h
    | [.nilFunc] => simp [DataW.trod, ht] at h
    | [.iface _ _] => simp [DataW.trod, ht] at h
    | [.nilIface] => simp [DataW.trod, ht] at h
    | [.agg _] => simp [DataW.trod, ht] at h
    | [.tuple _] => simp [DataW.trod, ht] at h

theorem Opens.bool {P : Program} {t : TypeId} (ht : P.underlying t = some .bool) : Opens P t Kd.bool (fun _ => True) := by
  intro H enc w base held fuel cs x h _
  cases fuel with
  | zero => cases h
  | succ fuel =>
    match cs with
    | [.bool b] => exact ⟨b, rfl, trivial⟩
    | [] => simp [DataW.trod, ht] at h
    | v :: u :: r => simp [DataW.trod, ht] at h
    | [.int _ _] => simp [DataW.trod, ht] at h
    | [.float _ _] => simp [DataW.trod, ht] at h
    | [.complex _ _ _] => simp [DataW.trod, ht] at h
    | [.string _] => simp [DataW.trod, ht] at h
    | [.pointer _] => simp [DataW.trod, ht] at h
    | [.slice _ _ _] => simp [DataW.trod, ht] at h
    | [.map _] => simp [DataW.trod, ht] at h
    | [.chan _] => simp [DataW.trod, ht] at h
    | [.func _ _ _] => simp [DataW.trod, ht] at h
    | [.nilFunc] => simp [DataW.trod, ht] at h
    | [.iface _ _] => simp [DataW.trod, ht] at h
    | [.nilIface] => simp [DataW.trod, ht] at h
    | [.agg _] => simp [DataW.trod, ht] at h
    | [.tuple _] => simp [DataW.trod, ht] at h

theorem Opens.string {P : Program} {t : TypeId} (ht : P.underlying t = some .string) : Opens P t Kd.string (fun s => s.size ≤ 140737488351232) := by
  intro H enc w base held fuel cs x h hw
  cases fuel with
  | zero => cases h
  | succ fuel =>
    match cs with
    | [.string s] =>
      simp only [DataW.trod, ht] at h
      by_cases hs : s.size ≤ maxLen
      · rw [if_pos hs] at h
        cases h
        refine ⟨s, rfl, ?_⟩
        simp [DataW.weights, reachBytes] at hw
        exact of_decide_eq_true hw
      · rw [if_neg hs] at h
        cases h
    | [] => simp [DataW.trod, ht] at h
    | v :: u :: r => simp [DataW.trod, ht] at h
    | [.int _ _] => simp [DataW.trod, ht] at h
    | [.float _ _] => simp [DataW.trod, ht] at h
    | [.complex _ _ _] => simp [DataW.trod, ht] at h
    | [.bool _] => simp [DataW.trod, ht] at h
    | [.pointer _] => simp [DataW.trod, ht] at h
    | [.slice _ _ _] => simp [DataW.trod, ht] at h
    | [.map _] => simp [DataW.trod, ht] at h
    | [.chan _] => simp [DataW.trod, ht] at h
    | [.func _ _ _] => simp [DataW.trod, ht] at h
    | [.nilFunc] => simp [DataW.trod, ht] at h
    | [.iface _ _] => simp [DataW.trod, ht] at h
    | [.nilIface] => simp [DataW.trod, ht] at h
    | [.agg _] => simp [DataW.trod, ht] at h
    | [.tuple _] => simp [DataW.trod, ht] at h

theorem add_add (a : Addr) (m i : Nat) : (a.add m).add i = a.add (m + i) := by
  unfold Addr.add
  by_cases hm : m = 0
  · subst hm
    simp
  · by_cases hi : i = 0
    · subst hi
      simp [hm]
    · simp [hm, hi, Nat.add_assoc]

theorem weightsAll_mem {H : Type} {P : Program} {e : TypeId} {l : List (DataW H)} (h : (DataW.weightsAll P e l).all (· ≤ reachBytes) = true) : ∀ x ∈ l, (x.weights P e).all (· ≤ reachBytes) = true := by
  induction l with
  | nil => intro x hx; cases hx
  | cons a l ih =>
    rw [DataW.weightsAll, List.all_append, Bool.and_eq_true] at h
    intro x hx
    rcases List.mem_cons.1 hx with rfl | hx
    · exact h.1
    · exact ih h.2 x hx

theorem list_of {α : Type} {p : Nat → α → Prop} : ∀ {n : Nat}, (∀ i, i < n → ∃ a, p i a) → ∃ l : List α, l.length = n ∧ ∀ i a, l[i]? = some a → p i a
  | 0, _ => ⟨[], rfl, fun i a h => by simp at h⟩
  | n + 1, h => by
    obtain ⟨l, hl, hp⟩ := list_of (n := n) (fun i hi => h i (by omega))
    obtain ⟨a, ha⟩ := h n (by omega)
    refine ⟨l ++ [a], by simp [hl], fun i b hb => ?_⟩
    by_cases hi : i < l.length
    · rw [List.getElem?_append_left hi] at hb
      exact hp i b hb
    · rw [List.getElem?_append_right (by omega)] at hb
      by_cases h0 : i - l.length = 0
      · rw [h0] at hb
        have e1 : i = n := by omega
        have e2 : a = b := by simpa using hb
        rw [e1, ← e2]
        exact ha
      · obtain ⟨m, hm⟩ : ∃ m, i - l.length = m + 1 := ⟨i - l.length - 1, by omega⟩
        rw [hm] at hb
        simp at hb

theorem Opens.slice {α : Type} {P : Program} {t e : TypeId} {d : Kd α} {Wf : α → Prop} {B : Nat} (ht : P.underlying t = some (.slice e)) (hc : P.cellsOf e = d.sz) (hB : P.bytesOf e = B) (h : Opens P e d Wf) :
    Opens P t (Kd.slice e d) (fun l => l.length * B ≤ 140737488351232 ∧ ∀ a ∈ l, Wf a) := by
  intro H enc w base held fuel cs x hx hw
  rcases open_slice ht hx with ⟨rfl, rfl⟩ | ⟨a, len, cap, m, n, D, Pl, rfl, hb, hl, hm, hmm, rfl, hel⟩
  · exact ⟨[], ⟨none, 0, rfl, Nat.le_refl _, rfl, Nat.zero_le _, fun h0 => absurd h0 (Nat.lt_irrefl 0)⟩, by simp, fun a ha => by cases ha⟩
  · simp only [if_true] at hmm
    subst hmm
    simp only [DataW.weights, ht, List.all_cons, Bool.and_eq_true, List.all_append] at hw
    obtain ⟨hw0, hw1, _⟩ := hw
    have hwe := weightsAll_mem hw1
    have each : ∀ i, i < len → ∃ a' : α, ∃ cs', w.cells? base (a.add (i * P.cellsOf e)) (P.cellsOf e) = some cs' ∧ d.K w a' cs' ∧ Wf a' := by
      intro i hi
      obtain ⟨cs', h1, h2⟩ := hel i (by omega)
      obtain ⟨a', h3, h4⟩ := h H enc w base held n cs' _ h2 (hwe _ (List.mem_map.2 ⟨i, List.mem_range.2 hi, rfl⟩))
      exact ⟨a', cs', h1, h3, h4⟩
    obtain ⟨V, hlV, hV⟩ := list_of each
    have hmax : maxLen = 9223372036854775807 := by decide
    refine ⟨V, ⟨some a, _, by rw [hlV], by omega, ?_⟩, ?_, ?_⟩
    · refine ⟨rfl, by omega, fun _ => ⟨a, rfl, fun j p hp => ?_⟩⟩
      obtain ⟨cs', h1, h2, _⟩ := hV j p hp
      refine ⟨cs', d.K_len h2, h2, fun i u hu => ?_⟩
      rw [hc] at h1
      obtain ⟨_, hlen, hcell⟩ := World.cells?_some h1
      have hi : i < d.sz := by
        have := (List.getElem?_eq_some_iff.1 hu).1
        rw [d.K_len h2] at this
        exact this
      have hci := hcell i hi
      rw [show a.add (j * d.sz + i) = (a.add (j * d.sz)).add i from (add_add a _ _).symm, hci]
      exact hu
    · simp only [List.length_map, List.length_range] at hw0
      simp only [hB, decide_eq_true_eq, reachBytes] at hw0
      refine Nat.le_trans (Nat.mul_le_mul_right _ ?_) hw0
      omega
    · intro a' ha'
      obtain ⟨i, hi, he⟩ := List.getElem_of_mem ha'
      obtain ⟨_, _, _, h4⟩ := hV i a' (by rw [List.getElem?_eq_getElem hi, he])
      exact h4

/-- Fields in line, from the cell 'off' on. -/
def OpensAll {α : Type} (P : Program) (off : Nat) (fs : List Field) (d : Kd α) (Wf : α → Prop) : Prop :=
  ∀ (H : Type) (enc : TypeId × Value → H) (w : World) (base : Nat) (held : Bool) (fuel : Nat) (cs : List Value) (xs : List (DataW H × List MemPlace)),
    (fs.mapM fun f => DataW.trod enc P w base (fun _ => true) held fuel f.type ((cs.drop f.offset).take (P.cellsOf f.type))) = some xs →
    (DataW.weightsEach P (fs.map (·.type)) (xs.map (·.1))).all (· ≤ reachBytes) = true → off + d.sz = cs.length → ∃ a, d.K w a (cs.drop off) ∧ Wf a

theorem OpensAll.one {α : Type} {P : Program} {off : Nat} {f : Field} {d : Kd α} {Wf : α → Prop} (hf : f.offset = off) (hc : P.cellsOf f.type = d.sz) (h : Opens P f.type d Wf) : OpensAll P off [f] d Wf := by
  intro H enc w base held fuel cs xs hx hw hl
  simp only [List.mapM_cons, List.mapM_nil, Option.bind_eq_bind, Option.pure_def, Option.bind_eq_some_iff, Option.some.injEq] at hx
  obtain ⟨x, hx, ys, rfl, rfl⟩ := hx
  rw [hf, hc, List.take_of_length_le (by rw [List.length_drop]; omega)] at hx
  simp only [List.map_cons, List.map_nil, DataW.weightsEach, List.append_nil] at hw
  exact h H enc w base held fuel _ x hx hw

theorem OpensAll.more {α β : Type} {P : Program} {off : Nat} {f : Field} {fs : List Field} {d : Kd α} {d' : Kd β} {Wf : α → Prop} {Wf' : β → Prop} (hf : f.offset = off) (hc : P.cellsOf f.type = d.sz) (h : Opens P f.type d Wf) (h' : OpensAll P (off + d.sz) fs d' Wf') :
    OpensAll P off (f :: fs) (Kd.pair d d') (fun a => Wf a.1 ∧ Wf' a.2) := by
  intro H enc w base held fuel cs xs hx hw hl
  simp only [List.mapM_cons, Option.bind_eq_bind, Option.pure_def, Option.bind_eq_some_iff, Option.some.injEq] at hx
  obtain ⟨x, hx, ys, hys, rfl⟩ := hx
  rw [hf, hc] at hx
  simp only [List.map_cons, DataW.weightsEach, List.all_append, Bool.and_eq_true] at hw
  have hl' : off + (d.sz + d'.sz) = cs.length := hl
  obtain ⟨a, h1, h2⟩ := h H enc w base held fuel _ x hx hw.1
  obtain ⟨b, h3, h4⟩ := h' H enc w base held fuel cs ys hys hw.2 (by omega)
  refine ⟨(a, b), ⟨(cs.drop off).take d.sz, cs.drop (off + d.sz), ?_, h1, h3⟩, h2, h4⟩
  rw [← List.drop_drop, List.take_append_drop]

theorem Opens.struct {α : Type} {P : Program} {t : TypeId} {fs : Array Field} {d : Kd α} {Wf : α → Prop} (ht : P.underlying t = some (.struct fs)) (hc : P.cellsOf t = d.sz) (h : OpensAll P 0 fs.toList d Wf) : Opens P t d Wf := by
  intro H enc w base held fuel cs x hx hw
  cases fuel with
  | zero => cases hx
  | succ fuel =>
    have hx' : (if cs.length = P.cellsOf t then (fs.toList.mapM fun f => DataW.trod enc P w base (fun _ => true) held fuel f.type ((cs.drop f.offset).take (P.cellsOf f.type))).map fun xs => (.agg (xs.map (·.1)), xs.flatMap (·.2)) else none) = some x := by
      simpa only [DataW.trod, ht] using hx
    by_cases hl : cs.length = P.cellsOf t
    · rw [if_pos hl, Option.map_eq_some_iff] at hx'
      obtain ⟨xs, hxs, rfl⟩ := hx'
      simp only [DataW.weights, ht] at hw
      have := h H enc w base held fuel cs xs hxs hw (by omega)
      simpa using this
    · rw [if_neg hl] at hx'
      cases hx'

theorem Opens.iso {α β : Type} {P : Program} {t : TypeId} {d : Kd α} {Wf : α → Prop} (f : β → α) (g : α → β) (hg : ∀ a, f (g a) = a) (h : Opens P t d Wf) : Opens P t (Kd.iso d f) (fun b => Wf (f b)) := by
  intro H enc w base held fuel cs x hx hw
  obtain ⟨a, h1, h2⟩ := h H enc w base held fuel cs x hx hw
  exact ⟨g a, show d.K w (f (g a)) cs by rw [hg]; exact h1, show Wf (f (g a)) by rw [hg]; exact h2⟩
end Go.Proofs.Ytnjimecjpnjojaa.Q
