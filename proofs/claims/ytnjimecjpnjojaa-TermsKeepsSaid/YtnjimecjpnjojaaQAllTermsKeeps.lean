/- The plain texts that the law TermsKeeps reaches, one behind the other. -/
import Derived.Test.Ytnjimecjpnjojaa0
import Derived.Test.YtnjimecjpnjojaaF59
import Derived.Test.YtnjimecjpnjojaaF67
import Derived.Test.YtnjimecjpnjojaaF50
import Derived.Test.YtnjimecjpnjojaaF62
import Derived.Test.YtnjimecjpnjojaaF68
import Derived.Test.YtnjimecjpnjojaaF52
import Derived.Test.YtnjimecjpnjojaaF27
import Derived.Test.YtnjimecjpnjojaaF29
import Derived.Test.YtnjimecjpnjojaaF28
import Derived.Test.YtnjimecjpnjojaaF30
import Derived.Test.YtnjimecjpnjojaaF55
import Derived.Test.YtnjimecjpnjojaaF32
import Derived.Test.YtnjimecjpnjojaaF34
import Derived.Test.YtnjimecjpnjojaaF33
import Derived.Test.YtnjimecjpnjojaaF35
import Derived.Test.YtnjimecjpnjojaaF31
import Derived.Test.YtnjimecjpnjojaaF63
import Derived.Test.YtnjimecjpnjojaaF40
import Derived.Test.YtnjimecjpnjojaaF41
import Derived.Test.YtnjimecjpnjojaaF38
import Derived.Test.YtnjimecjpnjojaaF26
import Derived.Deep.Slices
import Derived.ChangeSlices
import Derived.SizedLaws
/- Plain lemmas on numbers, bits and lists. -/
namespace Go.Proofs.Ytnjimecjpnjojaa.Q
open Go.RowKit Go.Proofs.YtnjimecjpnjojaaW.PrintWords Go.Proofs.YtnjimecjpnjojaaW.PrintLast Go.Proofs.YtnjimecjpnjojaaW.PrintMore

/-! ### ranges -/
theorem wf_u8 {x : Int} (h : (Lit.int .u8 x).wf = true) : 0 ≤ x ∧ x < 256 := by
  simp [Lit.wf, IntKind.min, IntKind.max, IntKind.bits, IntKind.signed] at h; omega
theorem wf_u16 {x : Int} (h : (Lit.int .u16 x).wf = true) : 0 ≤ x ∧ x < 65536 := by
  simp [Lit.wf, IntKind.min, IntKind.max, IntKind.bits, IntKind.signed] at h; omega
theorem wf_u32 {x : Int} (h : (Lit.int .u32 x).wf = true) : 0 ≤ x ∧ x < 4294967296 := by
  simp [Lit.wf, IntKind.min, IntKind.max, IntKind.bits, IntKind.signed] at h; omega
theorem wf_u64 {x : Int} (h : (Lit.int .u64 x).wf = true) : 0 ≤ x ∧ x < 18446744073709551616 := by
  simp [Lit.wf, IntKind.min, IntKind.max, IntKind.bits, IntKind.signed] at h; omega
theorem wf_i64 {x : Int} (h : (Lit.int .i64 x).wf = true) : -9223372036854775808 ≤ x ∧ x ≤ 9223372036854775807 := by
  simp [Lit.wf, IntKind.min, IntKind.max, IntKind.bits, IntKind.signed] at h; omega
/-- All are bytes. -/
def Bytes (l : List Int) : Prop := ∀ x ∈ l, 0 ≤ x ∧ x < 256
theorem bytes_wf {l : List Int} (h : ∀ x ∈ l, (Lit.int .u8 x).wf = true) : Bytes l := fun x hx => wf_u8 (h x hx)
theorem Bytes.nil : Bytes [] := fun _ h => by cases h
theorem Bytes.cons {x : Int} {l : List Int} (hx : 0 ≤ x ∧ x < 256) (h : Bytes l) : Bytes (x :: l) := by
  intro y hy
  rcases List.mem_cons.1 hy with rfl | hy
  · exact hx
  · exact h y hy
theorem Bytes.append {a b : List Int} (ha : Bytes a) (hb : Bytes b) : Bytes (a ++ b) := fun x hx => (List.mem_append.1 hx).elim (ha x) (hb x)
theorem Bytes.left {a b : List Int} (h : Bytes (a ++ b)) : Bytes a := fun x hx => h x (List.mem_append_left _ hx)
theorem Bytes.right {a b : List Int} (h : Bytes (a ++ b)) : Bytes b := fun x hx => h x (List.mem_append_right _ hx)
theorem Bytes.take {a : List Int} (n : Nat) (h : Bytes a) : Bytes (a.take n) := fun x hx => h x (List.mem_of_mem_take hx)
theorem Bytes.drop {a : List Int} (n : Nat) (h : Bytes a) : Bytes (a.drop n) := fun x hx => h x (List.mem_of_mem_drop hx)
theorem Bytes.reverse {a : List Int} (h : Bytes a) : Bytes a.reverse := fun x hx => h x (List.mem_reverse.1 hx)
theorem Bytes.at {a : List Int} (h : Bytes a) (i : Int) : 0 ≤ rd a i ∧ rd a i < 256 := by
  unfold rd
  rw [List.getD_eq_getElem?_getD]
  rcases Nat.lt_or_ge i.toNat a.length with hi | hi
  · rw [List.getElem?_eq_getElem hi]
    exact h _ (List.getElem_mem hi)
  · rw [List.getElem?_eq_none hi]
    exact ⟨by decide, by decide⟩
theorem Bytes.get {a : List Int} (h : Bytes a) (i : Nat) (hi : i < a.length) : 0 ≤ a[i] ∧ a[i] < 256 := h _ (List.getElem_mem hi)
theorem rd_get {a : List Int} (i : Nat) (hi : i < a.length) : rd a (i : Int) = a[i] := by
  unfold rd
  rw [Int.toNat_natCast, List.getD_eq_getElem?_getD, List.getElem?_eq_getElem hi]
  rfl

/-! ### wraps -/
theorem w64 {x : Int} (h0 : -9223372036854775808 ≤ x) (h1 : x ≤ 9223372036854775807) : wrap64 x = x := by unfold wrap64; omega
theorem wu64 (x : Int) : IntKind.u64.wrap x = x % 18446744073709551616 := by simp [IntKind.wrap, IntKind.bits, IntKind.signed]
theorem wu64s {x : Int} (h0 : 0 ≤ x) (h1 : x < 18446744073709551616) : IntKind.u64.wrap x = x := by rw [wu64]; omega
theorem wu32 (x : Int) : IntKind.u32.wrap x = x % 4294967296 := by simp [IntKind.wrap, IntKind.bits, IntKind.signed]
theorem wu32s {x : Int} (h0 : 0 ≤ x) (h1 : x < 4294967296) : IntKind.u32.wrap x = x := by rw [wu32]; omega

/-! ### bits -/
theorem bits_u64_and {a b : Nat} (ha : a < 18446744073709551616) (hb : b < 18446744073709551616) : Go.bits .and .u64 (a : Int) (b : Int) = ((a &&& b : Nat) : Int) :=
  (bits_nat .u64 64 (by decide) (fun n h0 h1 => wu64s h0 (by simpa using h1)) a b (by simpa using ha) (by simpa using hb)).1
theorem bits_u64_or {a b : Nat} (ha : a < 18446744073709551616) (hb : b < 18446744073709551616) : Go.bits .or .u64 (a : Int) (b : Int) = ((a ||| b : Nat) : Int) :=
  (bits_nat .u64 64 (by decide) (fun n h0 h1 => wu64s h0 (by simpa using h1)) a b (by simpa using ha) (by simpa using hb)).2
theorem bits_u32_and {a b : Nat} (ha : a < 4294967296) (hb : b < 4294967296) : Go.bits .and .u32 (a : Int) (b : Int) = ((a &&& b : Nat) : Int) :=
  (bits_nat .u32 32 (by decide) (fun n h0 h1 => wu32s h0 (by simpa using h1)) a b (by simpa using ha) (by simpa using hb)).1
theorem bits_u32_or {a b : Nat} (ha : a < 4294967296) (hb : b < 4294967296) : Go.bits .or .u32 (a : Int) (b : Int) = ((a ||| b : Nat) : Int) :=
  (bits_nat .u32 32 (by decide) (fun n h0 h1 => wu32s h0 (by simpa using h1)) a b (by simpa using ha) (by simpa using hb)).2
theorem u64_or_low {x y : Int} {i : Nat} (hx0 : 0 ≤ x) (hx : x % 2 ^ i = 0) (hx1 : x < 18446744073709551616) (hy0 : 0 ≤ y) (hy : y < 2 ^ i) (hy1 : y < 18446744073709551616) : Go.bits .or .u64 x y = x + y :=
  bits_join .u64 64 (by decide) (fun n h0 h1 => wu64s h0 (by simpa using h1)) i x y hx0 hx (by simpa using hx1) hy0 hy (by simpa using hy1)
theorem u32_low {x : Int} (h0 : 0 ≤ x) (h1 : x < 4294967296) : Go.bits .and .u32 x 1 = x % 2 := by
  have := bits_mask .u32 32 (by decide) (fun n h0 h1 => wu32s h0 (by simpa using h1)) 1 (by decide) x h0 (by simpa using h1)
  simpa using this

/-! ### strings of bytes -/
theorem strOf_list (l : List Int) : (strOfNums l).toList = l.map fun n => UInt8.ofNat n.toNat := by
  rw [ByteArray.toList_eq, strOfNums_data]
theorem strOf_length (l : List Int) : (strOfNums l).toList.length = l.length := by rw [strOf_list, List.length_map]
theorem byte_inj {x y : Int} (hx : 0 ≤ x ∧ x < 256) (hy : 0 ≤ y ∧ y < 256) (h : UInt8.ofNat x.toNat = UInt8.ofNat y.toNat) : x = y := by
  have := congrArg UInt8.toNat h
  simp only [UInt8.toNat_ofNat'] at this
  omega
theorem strOf_inj {a b : List Int} (ha : Bytes a) (hb : Bytes b) (h : (strOfNums a).toList = (strOfNums b).toList) : a = b := by
  rw [strOf_list, strOf_list] at h
  induction a generalizing b with
  | nil =>
    cases b with
    | nil => rfl
    | cons y b => simp at h
  | cons x a ih =>
    cases b with
    | nil => simp at h
    | cons y b =>
      simp only [List.map_cons, List.cons.injEq] at h
      obtain rfl := byte_inj (ha x (by simp)) (hb y (by simp)) h.1
      rw [ih (fun z hz => ha z (List.mem_cons_of_mem _ hz)) (fun z hz => hb z (List.mem_cons_of_mem _ hz)) h.2]
theorem strOf_iff {a b : List Int} (ha : Bytes a) (hb : Bytes b) : ((strOfNums a).toList = (strOfNums b).toList) ↔ a = b := ⟨strOf_inj ha hb, fun h => by rw [h]⟩
theorem strOf_beq {a b : List Int} (ha : Bytes a) (hb : Bytes b) : ((strOfNums a).toList == (strOfNums b).toList) = (a == b) := by
  rw [Bool.eq_iff_iff, beq_iff_eq, beq_iff_eq, strOf_iff ha hb]

/-! ### rounds -/
theorem Ev.at {α : Type} {g : Nat → Option α} {r : α} {K : Nat} (h : ∀ k, K ≤ k → g k = some r) : Ev g r := ⟨K, h⟩
theorem Ev.const {α : Type} {g : Option α} {r : α} (h : g = some r) : Ev (fun _ => g) r := ⟨0, fun _ _ => h⟩
theorem succ_of {k n : Nat} (h : n < k) : ∃ m, k = m + 1 ∧ n ≤ m := ⟨k - 1, by omega, by omega⟩
theorem Ev.eq {α : Type} {g : Nat → Option α} {a b : α} (h1 : Ev g a) (h2 : Ev g b) : a = b := by
  obtain ⟨K, h1⟩ := h1
  obtain ⟨K', h2⟩ := h2
  have a1 := h1 (max K K') (by omega)
  have a2 := h2 (max K K') (by omega)
  rw [a1] at a2
  exact Option.some.inj a2

/-! ### numbers as bytes -/
/-- A number's s bytes, the lowest first. -/
def leb (n : Int) : Nat → List Int
  | 0 => []
  | s + 1 => n % 256 :: leb (n / 256) s
theorem leb_length (n : Int) (s : Nat) : (leb n s).length = s := by
  induction s generalizing n with
  | zero => rfl
  | succ s ih => simp [leb, ih]
theorem leb_bytes (n : Int) (s : Nat) : Bytes (leb n s) := by
  induction s generalizing n with
  | zero => exact Bytes.nil
  | succ s ih => exact Bytes.cons (by omega) (ih _)
theorem leb_get (n : Int) (s i : Nat) (h : i < (leb n s).length) : (leb n s)[i] = n / 256 ^ i % 256 := by
  induction s generalizing n i with
  | zero => simp [leb] at h
  | succ s ih =>
    cases i with
    | zero => simp [leb]
    | succ i =>
      simp only [leb, List.getElem_cons_succ]
      rw [ih, Int.pow_succ, Int.mul_comm, Int.ediv_ediv_of_nonneg (by decide)]
theorem leb_snoc (n : Int) (s : Nat) : leb n (s + 1) = leb n s ++ [n / 256 ^ s % 256] := by
  apply List.ext_getElem
  · simp [leb_length]
  · intro i h1 h2
    rw [leb_get]
    rw [leb_length] at h1
    rcases Nat.lt_or_ge i s with hi | hi
    · rw [List.getElem_append_left (by rw [leb_length]; exact hi), leb_get]
    · obtain rfl : i = s := by omega
      rw [List.getElem_append_right (by rw [leb_length]; exact Nat.le_refl _)]
      simp [leb_length]
/-- The number whose bytes these are, the highest first. -/
def beval (l : List Int) : Int := l.foldl (fun a b => a * 256 + b) 0
theorem beval_snoc (l : List Int) (x : Int) : beval (l ++ [x]) = beval l * 256 + x := by simp [beval]
theorem beval_nil : beval [] = 0 := rfl
theorem beval_range (l : List Int) (h : Bytes l) : 0 ≤ beval l ∧ beval l < 256 ^ l.length := by
  suffices ∀ r : List Int, Bytes r.reverse → 0 ≤ beval r.reverse ∧ beval r.reverse < 256 ^ r.length by
    have := this l.reverse (by rwa [List.reverse_reverse])
    rwa [List.reverse_reverse, List.length_reverse] at this
  intro r
  induction r with
  | nil => intro _; exact ⟨by decide, by decide⟩
  | cons x r ih =>
    intro hb
    rw [List.reverse_cons] at hb ⊢
    have h1 := ih hb.left
    have h2 := hb.right x (by simp)
    rw [beval_snoc, List.length_cons, Int.pow_succ]
    exact ⟨by omega, by omega⟩
theorem leb_beval (l : List Int) (h : Bytes l) : leb (beval l) l.length = l.reverse := by
  suffices ∀ r : List Int, Bytes r.reverse → leb (beval r.reverse) r.length = r by
    have := this l.reverse (by rwa [List.reverse_reverse])
    rwa [List.reverse_reverse, List.length_reverse] at this
  intro r
  induction r with
  | nil => intro _; rfl
  | cons x r ih =>
    intro hb
    rw [List.reverse_cons] at hb ⊢
    have h2 := hb.right x (by simp)
    rw [beval_snoc, List.length_cons, leb]
    rw [show (beval r.reverse * 256 + x) % 256 = x by omega, show (beval r.reverse * 256 + x) / 256 = beval r.reverse by omega, ih hb.left]
theorem beval_leb (n : Int) (s : Nat) (h0 : 0 ≤ n) (h1 : n < 256 ^ s) : beval (leb n s).reverse = n := by
  induction s generalizing n with
  | zero => simp at h1; simp [leb, beval]; omega
  | succ s ih =>
    rw [leb, List.reverse_cons, beval_snoc, ih (n / 256) (by omega) (by rw [Int.pow_succ] at h1; omega)]
    omega
/-- A number's bytes, in either order. -/
def putb (n : Int) (s : Nat) (big : Bool) : List Int := if big then (leb n s).reverse else leb n s
theorem putb_length (n : Int) (s : Nat) (big : Bool) : (putb n s big).length = s := by
  unfold putb; split <;> simp [leb_length]
theorem putb_bytes (n : Int) (s : Nat) (big : Bool) : Bytes (putb n s big) := by
  unfold putb; split
  · exact (leb_bytes n s).reverse
  · exact leb_bytes n s
/-- Bytes' number, in either order. -/
def getv (l : List Int) (big : Bool) : Int := beval (if big then l else l.reverse)
theorem getv_putb (n : Int) (s : Nat) (big : Bool) (h0 : 0 ≤ n) (h1 : n < 256 ^ s) : getv (putb n s big) big = n := by
  unfold getv putb
  cases big <;> simp [beval_leb n s h0 h1]
theorem putb_getv (l : List Int) (big : Bool) (h : Bytes l) : putb (getv l big) l.length big = l := by
  unfold getv putb
  cases big
  · have := leb_beval l.reverse h.reverse
    simpa using this
  · have := leb_beval l h
    simp [this]
theorem getv_range (l : List Int) (big : Bool) (h : Bytes l) : 0 ≤ getv l big ∧ getv l big < 256 ^ l.length := by
  unfold getv
  cases big
  · have := beval_range l.reverse h.reverse
    simpa using this
  · simpa using beval_range l h
theorem pow256_le {i j : Nat} (h : i ≤ j) : (256 : Int) ^ i ≤ 256 ^ j := by
  have h1 : ∀ k : Nat, (256 : Int) ^ k = ((256 ^ k : Nat) : Int) := fun k => (Int.natCast_pow 256 k).symm
  rw [h1, h1]
  exact Int.ofNat_le.2 (Nat.pow_le_pow_right (by decide) h)
theorem pow256_8 : (256 : Int) ^ 8 = 18446744073709551616 := by decide
theorem pow256_2 (i : Nat) : (256 : Int) ^ i = 2 ^ (8 * i) := by
  rw [show (256 : Int) = 2 ^ 8 from rfl, ← Int.pow_mul]
end Go.Proofs.Ytnjimecjpnjojaa.Q

/- The functions of octet and of its reference, told by lists. -/
namespace Go.Proofs.Ytnjimecjpnjojaa.Q
open Go.RowKit Go.Proofs.Ytnjimecjpnjojaa.Print Go.Proofs.YtnjimecjpnjojaaW.PrintWords Go.Proofs.YtnjimecjpnjojaaW.PrintLast Go.Proofs.YtnjimecjpnjojaaW.PrintMore

set_option linter.unusedVariables false
set_option linter.unusedSimpArgs false
theorem div_zero {n p : Int} (h0 : 0 ≤ n) (hp : 0 < p) : n / p = 0 ↔ n < p := by
  constructor
  · intro h
    have h1 := Int.mul_ediv_add_emod n p
    have h2 := Int.emod_lt_of_pos n hp
    rw [h, Int.mul_zero] at h1
    omega
  · intro h
    exact Int.ediv_eq_zero_of_lt h0 h

/-! ### Fits -/
def fits (n : Int) (s : Int) : Bool := decide (1 ≤ s) && decide (s ≤ 8) && decide (n < 256 ^ s.toNat)
theorem fits_spec (n s : Int) (h0 : 0 ≤ n) (h1 : n < 18446744073709551616) : octet_Fits.f n s = some (fits n s) := by
  unfold octet_Fits.f fits
  by_cases a : 1 ≤ s
  · rw [if_pos a]
    by_cases b : s ≤ 8
    · rw [if_pos b]
      by_cases c : s = 8
      · subst c
        rw [if_pos rfl]
        simp [pow256_8, h1]
      · rw [if_neg c, w64 (by omega) (by omega), if_pos (by omega)]
        have hs : shr .u64 n (8 * s) = n / 256 ^ s.toNat := by
          unfold shr
          rw [Nat.min_eq_left (by simp [IntKind.bits]; omega), pow256_2, show (8 * s).toNat = 8 * s.toNat by omega]
        rw [hs]
        have hp : (0 : Int) < 256 ^ s.toNat := Int.pow_pos (by decide)
        have : (n / 256 ^ s.toNat == 0) = decide (n < 256 ^ s.toNat) := by
          rw [Bool.eq_iff_iff, beq_iff_eq, decide_eq_true_iff]
          exact div_zero h0 hp
        simp [this, a, b]
    · rw [if_neg b]
      simp [b]
  · rw [if_neg a]
    simp [a]

/-! ### Reverse -/
theorem rev_loop (x : List Int) (hm : x.length ≤ 4611686018427387904) (d : Nat) : ∀ (y : List Int) (i : Nat) (k : Nat), y.length = x.length → 2 * i ≤ x.length → x.length + 1 - 2 * i ≤ d → d < k →
    (∀ p, (hp : p < x.length) → (hq : p < y.length) → y[p] = if p < i ∨ x.length - i ≤ p then x[x.length - 1 - p]'(by omega) else x[p]) →
    slices_Reverse_byte_byte.l0 k y (i : Int) ((x.length : Int) - 1 - i) = some x.reverse := by
  induction d with
  | zero => intro y i k hl hi hd hk h; omega
  | succ d ih =>
    intro y i k hl hi hd hk h
    obtain ⟨k, rfl, hk⟩ := succ_of hk
    rw [slices_Reverse_byte_byte.l0]
    by_cases c : (i : Int) < (x.length : Int) - 1 - i
    · rw [if_pos c, if_pos (by omega), if_pos (by omega), if_pos (by omega), if_pos (by omega)]
      rw [show ((x.length : Int) - 1 - (i : Int)) = ((x.length - 1 - i : Nat) : Int) by omega]
      rw [rd_get (a := y) (x.length - 1 - i) (by omega), rd_get (a := y) i (by omega), Int.toNat_natCast, Int.toNat_natCast]
      rw [w64 (by omega) (by omega), w64 (by omega) (by omega)]
      have := ih ((y.set i (y[x.length - 1 - i]'(by omega))).set (x.length - 1 - i) (y[i]'(by omega))) (i + 1) k (by simp [hl]) (by omega) (by omega) (by omega) (by
        intro p hp hq
        have hi1 := h i (by omega) (by omega)
        have hj1 := h (x.length - 1 - i) (by omega) (by omega)
        have hp1 := h p hp (by omega)
        simp only [List.getElem_set]
        by_cases e1 : x.length - 1 - i = p
        · subst e1
          simp only [if_true]
          rw [hi1, if_neg (by omega), if_pos (by omega)]
          congr 1
          omega
        · rw [if_neg e1]
          by_cases e2 : i = p
          · subst e2
            simp only [if_true]
            rw [hj1, if_neg (by omega), if_pos (by omega)]
          · rw [if_neg e2, hp1]
            by_cases e3 : p < i ∨ x.length - i ≤ p
            · rw [if_pos e3, if_pos (by omega)]
            · rw [if_neg e3, if_neg (by omega)])
      rw [show ((i : Int) + 1) = ((i + 1 : Nat) : Int) by omega, show (((x.length - 1 - i : Nat) : Int) - 1) = (x.length : Int) - 1 - ((i + 1 : Nat) : Int) by omega]
      exact this
    · rw [if_neg c]
      congr 1
      apply List.ext_getElem
      · simp [hl]
      · intro p hp hq
        simp only [List.length_reverse] at hq
        rw [List.getElem_reverse, h p (by omega) hp]
        by_cases e : p < i ∨ x.length - i ≤ p
        · rw [if_pos e]
        · rw [if_neg e]
          congr 1
          omega
theorem reverse_spec (x : List Int) (hm : x.length ≤ 4611686018427387904) : Ev (fun k => slices_Reverse_byte_byte.f k x) x.reverse := by
  refine ⟨x.length + 3, fun k hk => ?_⟩
  show slices_Reverse_byte_byte.f k x = _
  unfold slices_Reverse_byte_byte.f
  rw [w64 (by omega) (by omega)]
  have := rev_loop x hm (x.length + 2) x 0 k rfl (by omega) (by omega) (by omega) (by
    intro p hp hq
    rw [if_neg (by omega)])
  simpa using this

/-! ### Put -/
theorem put_loop (n : Int) (h0 : 0 ≤ n) (s : Nat) (hs : s ≤ 8) (big : Bool) (d : Nat) : ∀ (i : Nat) (y : List Int), s - i = d → i ≤ s → y = leb n i ++ List.replicate (s - i) 0 →
    Ev (fun k => octet_Put.l0 k n big y (s : Int) (i : Int)) (putb n s big, true) := by
  induction d with
  | zero =>
    intro i y hd hi hy
    obtain rfl : i = s := by omega
    rw [Nat.sub_self, List.replicate_zero, List.append_nil] at hy
    subst hy
    refine Ev.step (f := fun k => if big = true then ((slices_Reverse_byte_byte.f k (leb n i)).bind fun t => (some (t, true))) else (some (leb n i, true))) (fun k => ?_) ?_
    · rw [octet_Put.l0, if_neg (by omega)]
    · unfold putb
      cases big
      · exact Ev.const rfl
      · simp only [if_true]
        exact Ev.bind (reverse_spec _ (by rw [leb_length]; omega)) (Ev.now _)
  | succ d ih =>
    intro i y hd hi hy
    have hlen : y.length = s := by
      subst hy
      simp [leb_length]
      omega
    refine Ev.step (f := fun k => octet_Put.l0 k n big (leb n (i + 1) ++ List.replicate (s - (i + 1)) 0) (s : Int) ((i + 1 : Nat) : Int)) (fun k => ?_) (ih (i + 1) _ (by omega) (by omega) rfl)
    rw [octet_Put.l0, if_pos (by omega), w64 (by omega) (by omega), if_pos (by omega), if_pos (by omega), if_pos (by omega), w64 (by omega) (by omega), Int.toNat_natCast]
    have hsh : shr .u64 n (8 * (i : Int)) = n / 256 ^ i := by
      unfold shr
      rw [Nat.min_eq_left (by simp [IntKind.bits]; omega), pow256_2, show (8 * (i : Int)).toNat = 8 * i by omega]
    have : y.set i (shr .u64 n (8 * (i : Int)) % 256) = leb n (i + 1) ++ List.replicate (s - (i + 1)) 0 := by
      rw [hsh, hy, leb_snoc, show s - i = (s - (i + 1)) + 1 by omega, List.replicate_succ, List.set_append_right _ _ (by rw [leb_length]; exact Nat.le_refl _)]
      simp [leb_length]
    rw [this]
    rfl
theorem put_spec (n s : Int) (big : Bool) (h0 : 0 ≤ n) (h1 : n < 18446744073709551616) : Ev (fun k => octet_Put.f k n s big) (if fits n s then (putb n s.toNat big, true) else ([], false)) := by
  unfold octet_Put.f
  rw [fits_spec n s h0 h1]
  simp only [Option.bind_some]
  by_cases c : fits n s = true
  · simp only [c, if_true]
    have hf : 1 ≤ s ∧ s ≤ 8 := by
      unfold fits at c
      simp only [Bool.and_eq_true, decide_eq_true_eq] at c
      exact c.1
    simp only [show (0 : Int) ≤ s by omega, show s.toNat ≤ 281474976710656 by omega, if_true]
    have := put_loop n h0 s.toNat (by omega) big s.toNat 0 (List.replicate s.toNat 0) (by omega) (by omega) (by simp [leb])
    rw [show ((s.toNat : Nat) : Int) = s by omega] at this
    exact this
  · simp only [c, if_false]
    exact Ev.const rfl

/-! ### Get -/
theorem or_step (v b : Int) (h0 : 0 ≤ v) (h1 : v < 72057594037927936) (hb : 0 ≤ b ∧ b < 256) : Go.bits .or .u64 (IntKind.u64.wrap (v * 256)) (IntKind.u64.wrap b) = v * 256 + b := by
  rw [wu64s (by omega) (by omega), wu64s (by omega) (by omega)]
  exact u64_or_low (i := 8) (by omega) (by omega) (by omega) (by omega) (by omega) (by omega)
theorem get_loop (x : List Int) (hb : Bytes x) (hl : x.length ≤ 8) (big : Bool) (d : Nat) : ∀ i : Nat, x.length - i = d → i ≤ x.length →
    Ev (fun k => octet_Get.l0 k x big (beval ((if big then x else x.reverse).take i)) (x.length : Int) (i : Int)) (getv x big, true) := by
  induction d with
  | zero =>
    intro i hd hi
    obtain rfl : i = x.length := by omega
    refine Ev.step (f := fun _ => some (getv x big, true)) (fun k => ?_) (Ev.now _)
    rw [octet_Get.l0, if_neg (by omega)]
    unfold getv
    cases big <;> simp [List.take_of_length_le]
  | succ d ih =>
    intro i hd hi
    refine Ev.step (f := fun k => octet_Get.l0 k x big (beval ((if big then x else x.reverse).take (i + 1))) (x.length : Int) ((i + 1 : Nat) : Int)) (fun k => ?_) (ih (i + 1) (by omega) (by omega))
    have hr : 0 ≤ beval ((if big then x else x.reverse).take i) ∧ beval ((if big then x else x.reverse).take i) < 72057594037927936 := by
      have hbb : Bytes ((if big then x else x.reverse).take i) := by
        cases big
        · exact hb.reverse.take i
        · exact hb.take i
      have := beval_range _ hbb
      have h2 := pow256_le (i := ((if big then x else x.reverse).take i).length) (j := 7) (by rw [List.length_take]; omega)
      rw [show (256 : Int) ^ 7 = 72057594037927936 from by decide] at h2
      exact ⟨this.1, Int.lt_of_lt_of_le this.2 h2⟩
    rw [octet_Get.l0, if_pos (by omega), w64 (x := (x.length : Int) - 1) (by omega) (by omega), w64 (x := (x.length : Int) - 1 - (i : Int)) (by omega) (by omega), if_pos (by omega), if_pos (by omega)]
    cases big
    · simp only [Bool.false_eq_true, if_false] at hr ⊢
      rw [or_step _ _ hr.1 hr.2 (hb.at _), w64 (by omega) (by omega)]
      rw [List.take_succ_eq_append_getElem (by simp; omega), beval_snoc, List.getElem_reverse]
      rw [show ((x.length : Int) - 1 - (i : Int)) = ((x.length - 1 - i : Nat) : Int) by omega, rd_get (a := x) (x.length - 1 - i) (by omega)]
      rfl
    · simp only [if_true] at hr ⊢
      rw [if_pos (by omega), if_pos (by omega), or_step _ _ hr.1 hr.2 (hb.at _), w64 (by omega) (by omega)]
      rw [List.take_succ_eq_append_getElem (by omega), beval_snoc, rd_get (a := x) i (by omega)]
      rfl
theorem get_spec (x : List Int) (hb : Bytes x) (big : Bool) : Ev (fun k => octet_Get.f k x big) (if 1 ≤ x.length ∧ x.length ≤ 8 then (getv x big, true) else (0, false)) := by
  unfold octet_Get.f
  by_cases a : (x.length : Int) < 1
  · simp only [a, if_true]
    rw [if_neg (by omega)]
    refine Ev.step (f := fun _ => some (0, false)) (fun k => ?_) (Ev.now _)
    rw [octet_Get.j0, if_pos rfl]
  · simp only [a, if_false]
    by_cases b : (x.length : Int) > 8
    · rw [if_neg (by omega)]
      refine Ev.step (f := fun _ => some (0, false)) (fun k => ?_) (Ev.now _)
      rw [octet_Get.j0, if_pos (by simpa using b)]
    · rw [if_pos (by omega)]
      refine Ev.step (f := fun k => octet_Get.l0 k x big 0 (x.length : Int) 0) (fun k => ?_) ?_
      · rw [octet_Get.j0, if_neg (by simpa using b)]
      · have := get_loop x hb (by omega) big x.length 0 (by omega) (by omega)
        simpa [beval] using this
end Go.Proofs.Ytnjimecjpnjojaa.Q

/- The functions of octet's reference, told by lists: Put and Get. -/
namespace Go.Proofs.Ytnjimecjpnjojaa.Q
open Go.RowKit Go.Proofs.Ytnjimecjpnjojaa.Print Go.Proofs.YtnjimecjpnjojaaW.PrintWords Go.Proofs.YtnjimecjpnjojaaW.PrintLast Go.Proofs.YtnjimecjpnjojaaW.PrintMore
set_option linter.unusedVariables false
set_option linter.unusedSimpArgs false

theorem rget_loop (x : List Int) (hb : Bytes x) (hl : x.length ≤ 8) (big : Bool) (d : Nat) : ∀ i : Nat, x.length - i = d → i ≤ x.length →
    Ev (fun k => umpireref02_Get.l0 k x big (beval ((if big then x else x.reverse).take i)) (i : Int)) (getv x big) := by
  induction d with
  | zero =>
    intro i hd hi
    obtain rfl : i = x.length := by omega
    refine Ev.step (f := fun _ => some (getv x big)) (fun k => ?_) (Ev.now _)
    rw [umpireref02_Get.l0, if_neg (by omega)]
    unfold getv
    cases big <;> simp [List.take_of_length_le]
  | succ d ih =>
    intro i hd hi
    refine Ev.step (f := fun k => umpireref02_Get.l0 k x big (beval ((if big then x else x.reverse).take (i + 1))) ((i + 1 : Nat) : Int)) (fun k => ?_) (ih (i + 1) (by omega) (by omega))
    have hr : 0 ≤ beval ((if big then x else x.reverse).take i) ∧ beval ((if big then x else x.reverse).take i) < 72057594037927936 := by
      have hbb : Bytes ((if big then x else x.reverse).take i) := by
        cases big
        · exact hb.reverse.take i
        · exact hb.take i
      have := beval_range _ hbb
      have h2 := pow256_le (i := ((if big then x else x.reverse).take i).length) (j := 7) (by rw [List.length_take]; omega)
      rw [show (256 : Int) ^ 7 = 72057594037927936 from by decide] at h2
      exact ⟨this.1, Int.lt_of_lt_of_le this.2 h2⟩
    have st : ∀ v b : Int, 0 ≤ v → v < 72057594037927936 → 0 ≤ b ∧ b < 256 → IntKind.u64.wrap (IntKind.u64.wrap (256 * v) + IntKind.u64.wrap b) = v * 256 + b := by
      intro v b a1 a2 a3
      rw [wu64s (x := 256 * v) (by omega) (by omega), wu64s (x := b) (by omega) (by omega), wu64s (by omega) (by omega)]
      omega
    rw [umpireref02_Get.l0, if_pos (by omega)]
    cases big
    · simp only [Bool.false_eq_true, if_false] at hr ⊢
      rw [w64 (x := (x.length : Int) - 1) (by omega) (by omega), w64 (x := (x.length : Int) - 1 - (i : Int)) (by omega) (by omega), if_pos (by omega), if_pos (by omega)]
      rw [st _ _ hr.1 hr.2 (hb.at _), w64 (by omega) (by omega)]
      rw [List.take_succ_eq_append_getElem (by simp; omega), beval_snoc, List.getElem_reverse]
      rw [show ((x.length : Int) - 1 - (i : Int)) = ((x.length - 1 - i : Nat) : Int) by omega, rd_get (a := x) (x.length - 1 - i) (by omega)]
      rfl
    · simp only [if_true] at hr ⊢
      rw [if_pos (by omega), st _ _ hr.1 hr.2 (hb.at _), w64 (by omega) (by omega)]
      rw [List.take_succ_eq_append_getElem (by omega), beval_snoc, rd_get (a := x) i (by omega)]
      rfl
theorem rget_spec (x : List Int) (hb : Bytes x) (hl : x.length ≤ 8) (big : Bool) : Ev (fun k => umpireref02_Get.f k x big) (getv x big) := by
  show Ev (fun k => umpireref02_Get.l0 k x big 0 0) _
  have := rget_loop x hb hl big x.length 0 (by omega) (by omega)
  simpa [beval] using this
end Go.Proofs.Ytnjimecjpnjojaa.Q

/- The functions of octet's reference, told by lists: Put and Get. -/
namespace Go.Proofs.Ytnjimecjpnjojaa.Q
open Go.RowKit Go.Proofs.Ytnjimecjpnjojaa.Print Go.Proofs.YtnjimecjpnjojaaW.PrintWords Go.Proofs.YtnjimecjpnjojaaW.PrintLast Go.Proofs.YtnjimecjpnjojaaW.PrintMore
set_option linter.unusedVariables false
set_option linter.unusedSimpArgs false

theorem leb_drop (n : Int) (i : Nat) : ∀ s : Nat, leb n (i + s) = leb n i ++ leb (n / 256 ^ i) s := by
  induction i generalizing n with
  | zero => intro s; simp [leb]
  | succ i ih =>
    intro s
    rw [show i + 1 + s = (i + s) + 1 by omega, leb, ih (n / 256) s, leb, List.cons_append, Int.pow_succ, Int.mul_comm, Int.ediv_ediv_of_nonneg (by decide)]
theorem rput_loop (n : Int) (h0 : 0 ≤ n) (h1 : n < 18446744073709551616) (s : Nat) (hs : s ≤ 8) (big : Bool) (d : Nat) : ∀ (i : Nat), s - i = d → i ≤ s →
    Ev (fun k => umpireref02_Put.l0 k (n / 256 ^ i) (s : Int) big (putb n i big) (i : Int)) (putb n s big) := by
  induction d with
  | zero =>
    intro i hd hi
    obtain rfl : i = s := by omega
    refine Ev.step (f := fun _ => some (putb n i big)) (fun k => ?_) (Ev.now _)
    rw [umpireref02_Put.l0, if_neg (by omega)]
  | succ d ih =>
    intro i hd hi
    refine Ev.step (f := fun k => umpireref02_Put.l0 k (n / 256 ^ (i + 1)) (s : Int) big (putb n (i + 1) big) ((i + 1 : Nat) : Int)) (fun k => ?_) (ih (i + 1) (by omega) (by omega))
    have hq0 : 0 ≤ n / 256 ^ i := Int.ediv_nonneg h0 (Int.le_of_lt (Int.pow_pos (by decide)))
    have hq1 : n / 256 ^ i ≤ n := Int.ediv_le_self _ h0
    have hdv : IntKind.u64.wrap (Int.tdiv (n / 256 ^ i) 256) = n / 256 ^ (i + 1) := by
      rw [Int.tdiv_eq_ediv_of_nonneg hq0, Int.ediv_ediv_of_nonneg (Int.le_of_lt (Int.pow_pos (by decide))), ← Int.pow_succ, wu64s]
      · exact Int.ediv_nonneg h0 (Int.le_of_lt (Int.pow_pos (by decide)))
      · exact Int.lt_of_le_of_lt (Int.ediv_le_self _ h0) h1
    have hmd : Int.tmod (n / 256 ^ i) 256 % 256 = n / 256 ^ i % 256 := by
      rw [Int.tmod_eq_emod_of_nonneg hq0]
      omega
    have hl : (putb n i big).length = i := putb_length _ _ _
    rw [umpireref02_Put.l0, if_pos (by omega), hdv, hmd, w64 (by omega) (by omega)]
    cases big
    · simp only [Bool.false_eq_true, if_false]
      rw [if_pos (by omega)]
      have : putb n i false ++ [n / 256 ^ i % 256] = putb n (i + 1) false := by
        unfold putb
        simp only [Bool.false_eq_true, if_false]
        rw [leb_snoc]
      rw [this]
      rfl
    · simp only [if_true, Option.bind_some]
      rw [if_pos (by simp [hl]; omega)]
      have : [n / 256 ^ i % 256] ++ putb n i true = putb n (i + 1) true := by
        unfold putb
        simp only [if_true]
        rw [leb_snoc, List.reverse_append]
        rfl
      rw [this]
      rfl
theorem rput_spec (n : Int) (s : Nat) (big : Bool) (h0 : 0 ≤ n) (h1 : n < 18446744073709551616) (hs : s ≤ 8) : Ev (fun k => umpireref02_Put.f k n (s : Int) big) (putb n s big) := by
  have := rput_loop n h0 h1 s hs big s 0 (by omega) (by omega)
  have e : putb n 0 big = [] := by unfold putb; cases big <;> rfl
  rw [e] at this
  simp only [Int.pow_zero, Int.ediv_one] at this
  exact this

end Go.Proofs.Ytnjimecjpnjojaa.Q

/- slices.Clone at bytes, told by lists. -/
namespace Go.Proofs.Ytnjimecjpnjojaa.Q
open Go.RowKit Go.Proofs.Ytnjimecjpnjojaa.Print Go.Proofs.YtnjimecjpnjojaaW.PrintWords Go.Proofs.YtnjimecjpnjojaaW.PrintLast Go.Proofs.YtnjimecjpnjojaaW.PrintMore
set_option linter.unusedVariables false
set_option linter.unusedSimpArgs false

theorem clone_spec (l : List Int) (h : l.length < 140737488355328) : slices_Clone_byte_byte.f l = some l := by
  unfold slices_Clone_byte_byte.f
  rw [if_pos h]
end Go.Proofs.Ytnjimecjpnjojaa.Q

/- octet.Cut, told by lists. -/
namespace Go.Proofs.Ytnjimecjpnjojaa.Q
open Go.RowKit Go.Proofs.Ytnjimecjpnjojaa.Print Go.Proofs.YtnjimecjpnjojaaW.PrintWords Go.Proofs.YtnjimecjpnjojaaW.PrintLast Go.Proofs.YtnjimecjpnjojaaW.PrintMore
set_option linter.unusedVariables false
set_option linter.unusedSimpArgs false

/-- What is cut out of l at a place, n bytes. -/
def cutv (l : List Int) (at_ n : Int) : List Int × Bool :=
  if 0 ≤ at_ ∧ 0 ≤ n ∧ at_ + n ≤ l.length then ((l.drop at_.toNat).take n.toNat, true) else ([], false)
theorem cut_spec (l : List Int) (at_ n : Int) (hl : l.length < 140737488355328) (ha : at_ ≤ 9223372036854775807) : octet_Cut.f l at_ n = some (cutv l at_ n) := by
  unfold octet_Cut.f cutv
  by_cases a : at_ < 0
  · rw [if_pos a, if_neg (by omega)]
  · rw [if_neg a]
    by_cases b : n < 0
    · rw [if_pos b, if_neg (by omega)]
    · rw [if_neg b]
      by_cases c : at_ > (l.length : Int)
      · rw [if_pos c, if_neg (by omega)]
      · rw [if_neg c, w64 (x := (l.length : Int) - at_) (by omega) (by omega)]
        by_cases d : n > (l.length : Int) - at_
        · rw [if_pos d, if_neg (by omega)]
        · rw [if_neg d, if_pos (by omega), w64 (by omega) (by omega), if_pos (by omega), if_pos (by omega), if_pos (by omega)]
          rw [clone_spec _ (by rw [List.length_drop, List.length_take]; omega)]
          simp only [Option.bind_some]
          rw [List.drop_take, show (at_ + n).toNat - at_.toNat = n.toNat by omega]
end Go.Proofs.Ytnjimecjpnjojaa.Q

/- Options of LCP: whether one is known, and right; what it tells. -/
namespace Go.Proofs.Ytnjimecjpnjojaa.Q
open Go.RowKit Go.Proofs.Ytnjimecjpnjojaa.Print Go.Proofs.YtnjimecjpnjojaaW.PrintWords Go.Proofs.YtnjimecjpnjojaaW.PrintLast Go.Proofs.YtnjimecjpnjojaaW.PrintMore
set_option linter.unusedVariables false
/-- A type that is known. -/
def knownv (a : Int) : Bool := decide (a = 1 ∨ a = 2 ∨ a = 3 ∨ a = 4 ∨ a = 5 ∨ a = 7 ∨ a = 8)
theorem fn_known (a : Int) : (terms_readers.fn a = -1) ↔ knownv a = false := by
  unfold terms_readers.fn knownv
  repeat' split
  all_goals first
    | (subst_vars; decide)
    | (simp only [true_iff, decide_eq_false_iff_not]; omega)
theorem known_spec (a : Int) (h : (Lit.int .i64 a).wf = true) : terms_Known.f a = some (knownv a) := by
  unfold terms_Known.f
  rw [if_pos h]
  congr 1
  have := fn_known a
  cases hk : knownv a with
  | false => exact decide_eq_false (by simp [this.2 hk])
  | true => exact decide_eq_true (fun e => by rw [this.1 e] at hk; cases hk)
theorem rknown_spec (a : Int) : umpireref14_Known.f a = some (knownv a) := by
  unfold umpireref14_Known.f knownv
  by_cases h1 : a ≥ 1
  · rw [if_pos h1]
    by_cases h2 : a ≤ 5
    · rw [if_pos h2, decide_eq_true (by omega)]
    · rw [if_neg h2]
      by_cases h3 : a = 7
      · rw [if_pos h3, decide_eq_true (by omega)]
      · rw [if_neg h3]
        by_cases h4 : a = 8
        · rw [decide_eq_true (by omega), beq_iff_eq.2 h4]
        · rw [decide_eq_false (by omega), beq_eq_false_iff_ne.2 h4]
  · rw [if_neg h1, if_neg (by omega), decide_eq_false (by omega), beq_eq_false_iff_ne.2 (by omega)]
/-- Two bytes' number. -/
theorem getv_two (a b : Int) : getv [a, b] true = a * 256 + b := by simp [getv, beval]
/-- What an option of Type 3 asks for. -/
def askv (l : List Int) : Int :=
  if l.length < 2 then 0 else
  if 256 * rd l 0 + rd l 1 = 49187 then (if l.length = 2 then 49187 else 0) else
  if 256 * rd l 0 + rd l 1 = 49699 then (if l.length = 3 ∧ rd l 2 = 5 then 49699 else 0) else 1
theorem take_two (l : List Int) (h : 2 ≤ l.length) : l.take 2 = [rd l 0, rd l 1] := by
  match l, h with
  | a :: b :: m, _ => rfl
theorem asked_spec (l : List Int) (hb : Bytes l) (hm : l.length < 140737488355328) : Ev (fun k => terms_asked.f k l) (askv l) := by
  unfold terms_asked.f askv
  refine Ev.congr (fun k => by rw [cut_spec l 0 2 hm (by omega), Option.bind_some]) ?_
  by_cases h : l.length < 2
  · rw [if_pos h]
    have hc : cutv l 0 2 = ([], false) := if_neg (fun hh => by have := hh.2.2; omega)
    rw [hc]
    exact Ev.now _
  · rw [if_neg h]
    have hc : cutv l 0 2 = ((l.drop 0).take 2, true) := if_pos ⟨by omega, by omega, by omega⟩
    have h0 := hb.at 0
    have h1 := hb.at 1
    rw [hc, List.drop_zero, take_two l (by omega)]
    refine Ev.congr (fun k => if_pos rfl) ?_
    have hg := get_spec [rd l 0, rd l 1] (Bytes.cons h0 (Bytes.cons h1 Bytes.nil)) true
    rw [if_pos (by simp), getv_two] at hg
    refine Ev.bind hg ?_
    have e : rd l 0 * 256 + rd l 1 = 256 * rd l 0 + rd l 1 := by omega
    rw [e]
    have hr : 0 ≤ 256 * rd l 0 + rd l 1 ∧ 256 * rd l 0 + rd l 1 < 65536 := by omega
    generalize 256 * rd l 0 + rd l 1 = n at hr ⊢
    have hw : wrap64 n = n := w64 (by omega) (by omega)
    by_cases n1 : n = 49187
    · rw [if_pos n1]
      refine Ev.congr (fun k => if_pos n1) ?_
      by_cases hl : l.length = 2
      · rw [if_pos hl, beq_iff_eq.2 (show (l.length : Int) = 2 by omega)]
        refine Ev.step (fun k => by rw [terms_asked.j0, if_pos rfl]) ?_
        refine Ev.step (fun k => by rw [terms_asked.j1, if_pos rfl]) ?_
        rw [hw, n1]
        exact Ev.now _
      · rw [if_neg hl, beq_eq_false_iff_ne.2 (show (l.length : Int) ≠ 2 by omega)]
        refine Ev.step (fun k => by rw [terms_asked.j0, if_neg (by decide), if_neg (by omega)]) ?_
        refine Ev.step (fun k => by rw [terms_asked.j1, if_neg (by decide), if_pos n1]) ?_
        exact Ev.now _
    · rw [if_neg n1]
      refine Ev.congr (fun k => if_neg n1) ?_
      by_cases n2 : n = 49699
      · rw [if_pos n2]
        by_cases hl : l.length = 3
        · refine Ev.step (fun k => by rw [terms_asked.j0, if_neg (by decide), if_pos n2, if_pos (by omega), if_pos (by omega)]) ?_
          by_cases h5 : rd l 2 = 5
          · rw [if_pos ⟨hl, h5⟩, beq_iff_eq.2 h5]
            refine Ev.step (fun k => by rw [terms_asked.j1, if_pos rfl]) ?_
            rw [hw, n2]
            exact Ev.now _
          · rw [if_neg (fun q => h5 q.2), beq_eq_false_iff_ne.2 h5]
            refine Ev.step (fun k => by rw [terms_asked.j1, if_neg (by decide), if_neg n1, if_pos n2]) ?_
            exact Ev.now _
        · rw [if_neg (fun q => hl q.1)]
          refine Ev.step (fun k => by rw [terms_asked.j0, if_neg (by decide), if_pos n2, if_neg (by omega)]) ?_
          refine Ev.step (fun k => by rw [terms_asked.j1, if_neg (by decide), if_neg n1, if_pos n2]) ?_
          exact Ev.now _
      · rw [if_neg n2]
        refine Ev.step (fun k => by rw [terms_asked.j0, if_neg (by decide), if_neg n2]) ?_
        refine Ev.step (fun k => by rw [terms_asked.j1, if_neg (by decide), if_neg n1, if_neg n2]) ?_
        exact Ev.now _
/-- Whether an option is right. -/
def rightv (t : Int) (l : List Int) : Bool :=
  if t = 1 then (l.length : Int) == 2 else if t = 2 then (l.length : Int) == 4 else if t = 3 then askv l != 0 else if t = 4 then decide (2 ≤ (l.length : Int)) else
  if t = 5 then (l.length : Int) == 4 && getv l true != 0 else if t = 7 then (l.length : Int) == 0 else if t = 8 then (l.length : Int) == 0 else false
theorem rright_spec (t : Int) (l : List Int) (hb : Bytes l) : Ev (fun k => umpireref14_Right.f k t l) (rightv t l) := by
  unfold umpireref14_Right.f rightv
  by_cases t1 : t = 1
  · rw [if_pos t1]; exact Ev.congr (fun k => if_pos t1) (Ev.now _)
  rw [if_neg t1]; refine Ev.congr (fun k => if_neg t1) ?_
  by_cases t2 : t = 2
  · rw [if_pos t2]; exact Ev.congr (fun k => if_pos t2) (Ev.now _)
  rw [if_neg t2]; refine Ev.congr (fun k => if_neg t2) ?_
  by_cases t3 : t = 3
  · rw [if_pos t3]; refine Ev.congr (fun k => if_pos t3) ?_
    unfold askv
    by_cases h : l.length < 2
    · rw [if_pos h]; exact Ev.congr (fun k => if_pos (by omega)) (Ev.now _)
    · rw [if_neg h]
      have h0 := hb.at 0
      have h1 := hb.at 1
      have hw : wrap64 (wrap64 (256 * wrap64 (rd l 0)) + wrap64 (rd l 1)) = 256 * rd l 0 + rd l 1 := by
        rw [w64 (x := rd l 0) (by omega) (by omega), w64 (x := rd l 1) (by omega) (by omega), w64 (x := 256 * rd l 0) (by omega) (by omega), w64 (by omega) (by omega)]
      refine Ev.const ?_
      rw [if_neg (by omega), if_pos (by omega), if_pos (by omega), hw]
      generalize 256 * rd l 0 + rd l 1 = n
      by_cases n1 : n = 49187
      · rw [if_pos n1, if_pos n1]
        by_cases hl : l.length = 2
        · rw [if_pos hl, beq_iff_eq.2 (show (l.length : Int) = 2 by omega)]; rfl
        · rw [if_neg hl, beq_eq_false_iff_ne.2 (show (l.length : Int) ≠ 2 by omega)]; rfl
      · rw [if_neg n1, if_neg n1]
        by_cases n2 : n = 49699
        · rw [if_pos n2, if_pos n2]
          by_cases hl : l.length = 3
          · rw [if_pos (by omega), if_pos (by omega)]
            by_cases h5 : rd l 2 = 5
            · rw [if_pos ⟨hl, h5⟩, beq_iff_eq.2 h5]; rfl
            · rw [if_neg (fun q => h5 q.2), beq_eq_false_iff_ne.2 h5]; rfl
          · rw [if_neg (by omega), if_neg (fun q => hl q.1)]; rfl
        · rw [if_neg n2, if_neg n2]; rfl
  rw [if_neg t3]; refine Ev.congr (fun k => if_neg t3) ?_
  by_cases t4 : t = 4
  · rw [if_pos t4]; exact Ev.congr (fun k => if_pos t4) (Ev.now _)
  rw [if_neg t4]; refine Ev.congr (fun k => if_neg t4) ?_
  by_cases t5 : t = 5
  · rw [if_pos t5]; refine Ev.congr (fun k => if_pos t5) ?_
    by_cases hl : l.length = 4
    · refine Ev.congr (fun k => if_pos (by omega)) ?_
      refine Ev.bind (rget_spec l hb (by omega) true) ?_
      rw [beq_iff_eq.2 (show (l.length : Int) = 4 by omega), Bool.true_and]
      exact Ev.now _
    · rw [beq_eq_false_iff_ne.2 (show (l.length : Int) ≠ 4 by omega), Bool.false_and]
      exact Ev.congr (fun k => if_neg (by omega)) (Ev.now _)
  rw [if_neg t5]; refine Ev.congr (fun k => if_neg t5) ?_
  refine Ev.const ?_
  by_cases t7 : t = 7
  · rw [if_pos t7, if_pos t7]
  · rw [if_neg t7, if_neg t7]
    by_cases t8 : t = 8
    · rw [if_pos t8, if_pos t8]
    · rw [if_neg t8, if_neg t8]
theorem number_spec (l : List Int) (hb : Bytes l) (n : Nat) (h1 : 1 ≤ n) (h8 : n ≤ 8) : Ev (fun k => terms_number.f k l (n : Int)) (if l.length = n then (getv l true, true) else (0, false)) := by
  unfold terms_number.f
  by_cases h : l.length = n
  · rw [if_pos h]
    refine Ev.congr (fun k => if_pos (by omega)) ?_
    have hg := get_spec l hb true
    rw [if_pos (by omega)] at hg
    exact Ev.bind hg (Ev.now _)
  · rw [if_neg h]
    exact Ev.congr (fun k => if_neg (by omega)) (Ev.now _)
theorem accget_spec (l : List Int) (hb : Bytes l) : Ev (fun k => accm_Get.f k l) (if l.length = 4 then (getv l true % 4294967296, true) else (0, false)) := by
  unfold accm_Get.f
  by_cases h : l.length = 4
  · rw [if_pos h]
    refine Ev.congr (fun k => if_pos (by omega)) ?_
    have hg := get_spec l hb true
    rw [if_pos (by omega)] at hg
    exact Ev.bind hg (Ev.now _)
  · rw [if_neg h]
    exact Ev.congr (fun k => if_neg (by omega)) (Ev.now _)
/-- What an option that is right makes of the terms. -/
def tellv (ty : Int) (t : terms_readers.T) (l : List Int) : terms_readers.T :=
  if ty = 1 then { t with f0 := true, f1 := wrap64 (if l.length = 2 then getv l true else 0) } else
  if ty = 2 then { t with f2 := true, f3 := (if l.length = 4 then getv l true % 4294967296 else 0) } else
  if ty = 3 then { t with f4 := askv l } else
  if ty = 4 then { t with f5 := true } else
  if ty = 5 then { t with f6 := true, f7 := (if l.length = 4 then getv l true else 0) % 4294967296 } else
  if ty = 7 then { t with f8 := true } else
  if ty = 8 then { t with f9 := true } else t
theorem step_spec (ty : Int) (t : terms_readers.T) (l : List Int) (hb : Bytes l) (hm : l.length < 140737488355328) (hk : knownv ty = true) : Ev (fun k => terms_readers.step k ty t l) (tellv ty t l, rightv ty l) := by
  unfold terms_readers.step tellv rightv
  by_cases t1 : ty = 1
  · rw [if_pos t1, if_pos t1]; refine Ev.congr (fun k => if_pos t1) ?_
    refine Ev.bind (number_spec l hb 2 (by omega) (by omega)) ?_
    by_cases h : l.length = 2
    · rw [if_pos h, if_pos h, beq_iff_eq.2 (show (l.length : Int) = 2 by omega)]; exact Ev.now _
    · rw [if_neg h, if_neg h, beq_eq_false_iff_ne.2 (show (l.length : Int) ≠ 2 by omega)]; exact Ev.now _
  rw [if_neg t1, if_neg t1]; refine Ev.congr (fun k => if_neg t1) ?_
  by_cases t2 : ty = 2
  · rw [if_pos t2, if_pos t2]; refine Ev.congr (fun k => if_pos t2) ?_
    refine Ev.bind (accget_spec l hb) ?_
    by_cases h : l.length = 4
    · rw [if_pos h, if_pos h, beq_iff_eq.2 (show (l.length : Int) = 4 by omega)]; exact Ev.now _
    · rw [if_neg h, if_neg h, beq_eq_false_iff_ne.2 (show (l.length : Int) ≠ 4 by omega)]; exact Ev.now _
  rw [if_neg t2, if_neg t2]; refine Ev.congr (fun k => if_neg t2) ?_
  by_cases t3 : ty = 3
  · rw [if_pos t3, if_pos t3]; refine Ev.congr (fun k => if_pos t3) ?_
    exact Ev.bind (asked_spec l hb hm) (Ev.now _)
  rw [if_neg t3, if_neg t3]; refine Ev.congr (fun k => if_neg t3) ?_
  by_cases t4 : ty = 4
  · rw [if_pos t4, if_pos t4]; exact Ev.congr (fun k => if_pos t4) (Ev.now _)
  rw [if_neg t4, if_neg t4]; refine Ev.congr (fun k => if_neg t4) ?_
  by_cases t5 : ty = 5
  · rw [if_pos t5, if_pos t5]; refine Ev.congr (fun k => if_pos t5) ?_
    refine Ev.bind (number_spec l hb 4 (by omega) (by omega)) ?_
    by_cases h : l.length = 4
    · rw [if_pos h, if_pos h, beq_iff_eq.2 (show (l.length : Int) = 4 by omega)]; exact Ev.now _
    · rw [if_neg h, if_neg h, beq_eq_false_iff_ne.2 (show (l.length : Int) ≠ 4 by omega)]; exact Ev.now _
  rw [if_neg t5, if_neg t5]; refine Ev.congr (fun k => if_neg t5) ?_
  refine Ev.const ?_
  by_cases t7 : ty = 7
  · rw [if_pos t7, if_pos t7, if_pos t7]
  rw [if_neg t7, if_neg t7, if_neg t7]
  by_cases t8 : ty = 8
  · rw [if_pos t8, if_pos t8, if_pos t8]
  · exfalso
    unfold knownv at hk
    have := of_decide_eq_true hk
    omega
theorem rightv_known (ty : Int) (l : List Int) (hk : knownv ty = false) : rightv ty l = false := by
  have := of_decide_eq_false (show decide _ = false from hk)
  unfold rightv
  rw [if_neg (by omega), if_neg (by omega), if_neg (by omega), if_neg (by omega), if_neg (by omega), if_neg (by omega), if_neg (by omega)]
theorem right_spec (ty : Int) (l : List Int) (hw : (Lit.int .i64 ty).wf = true) (hb : Bytes l) (hm : l.length < 140737488355328) : Ev (fun k => terms_Right.f k ty l) (rightv ty l) := by
  unfold terms_Right.f
  refine Ev.congr (fun k => if_pos hw) ?_
  cases hk : knownv ty with
  | false =>
    rw [rightv_known ty l hk]
    exact Ev.congr (fun k => if_pos ((fn_known ty).2 hk)) (Ev.now _)
  | true =>
    refine Ev.congr (fun k => if_neg (fun e => by rw [(fn_known ty).1 e] at hk; cases hk)) ?_
    exact Ev.bind (step_spec ty _ l hb hm hk) (Ev.now _)
end Go.Proofs.Ytnjimecjpnjojaa.Q

/- What a list of options asks for: terms.Read, terms.Login and the reference's. -/
namespace Go.Proofs.Ytnjimecjpnjojaa.Q
open Go.RowKit Go.Proofs.Ytnjimecjpnjojaa.Print Go.Proofs.YtnjimecjpnjojaaW.PrintWords Go.Proofs.YtnjimecjpnjojaaW.PrintLast Go.Proofs.YtnjimecjpnjojaaW.PrintMore
set_option linter.unusedVariables false
abbrev Opt := S55
abbrev Tm := terms_readers.T
/-- Options with types that an int holds, and bytes. -/
def Opts (l : List Opt) : Prop := ∀ x ∈ l, (Lit.int .i64 x.f0).wf = true ∧ Bytes x.f1 ∧ x.f1.length < 140737488355328
theorem Opts.tail {x : Opt} {l : List Opt} (h : Opts (x :: l)) : Opts l := fun y hy => h y (List.mem_cons_of_mem _ hy)
theorem opt_at (l : List Opt) (i : Nat) (h : i < l.length) : rd_T55 l (i : Int) = l[i] := by
  unfold rd_T55
  rw [Int.toNat_natCast, List.getD_eq_getElem?_getD, List.getElem?_eq_getElem h]
  rfl
def allr (l : List Opt) : Bool := l.all fun x => rightv x.f0 x.f1
def readt (t : Tm) : List Opt → Tm
  | [] => t
  | x :: m => readt (tellv x.f0 t x.f1) m
def rres (s : List Int) (t : Tm) : List Opt → Tm × Bool
  | [] => (t, true)
  | x :: m => if rightv x.f0 x.f1 = true ∧ ¬ x.f0 ∈ s then rres (x.f0 :: s) (tellv x.f0 t x.f1) m else (terms_readers.T.zero, false)
theorem rres_eq (l : List Opt) : ∀ (s : List Int) (t : Tm), rres s t l = if allr l = true ∧ option_Twice.go l s = false then (readt t l, true) else (terms_readers.T.zero, false) := by
  induction l with
  | nil => intro s t; rw [if_pos ⟨rfl, rfl⟩]; rfl
  | cons x m ih =>
    intro s t
    unfold rres
    have ha : allr (x :: m) = (rightv x.f0 x.f1 && allr m) := by unfold allr; rw [List.all_cons]
    rw [ha, option_Twice.go]
    by_cases hr : rightv x.f0 x.f1 = true
    · by_cases hs : x.f0 ∈ s
      · rw [if_neg (fun q => q.2 hs), if_pos hs, if_neg (by simp)]
      · rw [if_pos ⟨hr, hs⟩, if_neg hs, ih, hr, Bool.true_and]
        rfl
    · have hf : rightv x.f0 x.f1 = false := by simpa using hr
      rw [if_neg (fun q => hr q.1), hf, Bool.false_and, if_neg (by simp)]
theorem rgo_spec (l : List Opt) : ∀ (t : Tm), Opts l → Ev (fun k => terms_Read.go k t l) (if allr l = true then (readt t l, true) else (terms_readers.T.zero, false)) := by
  induction l with
  | nil => intro t _; exact Ev.now _
  | cons x m ih =>
    intro t h
    obtain ⟨hw, hb, hm⟩ := h x (List.mem_cons_self ..)
    have ha : allr (x :: m) = (rightv x.f0 x.f1 && allr m) := by unfold allr; rw [List.all_cons]
    rw [ha]
    cases hk : knownv x.f0 with
    | false =>
      rw [rightv_known _ _ hk, Bool.false_and]
      refine Ev.congr (fun k => by rw [terms_Read.go, if_pos ((fn_known _).2 hk)]) ?_
      exact Ev.now _
    | true =>
      refine Ev.congr (fun k => by rw [terms_Read.go, if_neg (fun e => by rw [(fn_known _).1 e] at hk; cases hk)]) ?_
      refine Ev.bind (step_spec x.f0 t x.f1 hb hm hk) ?_
      cases hr : rightv x.f0 x.f1 with
      | false =>
        rw [Bool.false_and]
        exact Ev.congr (fun k => if_neg (by simp)) (Ev.now _)
      | true =>
        rw [Bool.true_and]
        exact Ev.congr (fun k => if_pos rfl) (ih _ h.tail)
def tup (r : Tm × Bool) : Bool × Int × Bool × Int × Int × Bool × Bool × Int × Bool × Bool × Bool := (r.1.f0, r.1.f1, r.1.f2, r.1.f3, r.1.f4, r.1.f5, r.1.f6, r.1.f7, r.1.f8, r.1.f9, r.2)
theorem all_wf (l : List Opt) (h : Opts l) : (l.all fun x => (Lit.int .i64 x.f0).wf) = true := List.all_eq_true.2 fun x hx => (h x hx).1
theorem tread_spec (l : List Opt) (h : Opts l) (hl : l.length < 1000000) : Ev (fun k => terms_Read.f k l) (tup (rres [] terms_readers.T.zero l)) := by
  unfold terms_Read.f
  have hw : (l.all fun x => (Lit.int .i64 x.f0).wf) = true ∧ l.length < 1000000 := ⟨all_wf l h, hl⟩
  refine Ev.congr (fun k => if_pos hw) ?_
  refine Ev.bind (rgo_spec l _ h) ?_
  rw [rres_eq]
  have htw : option_Twice.f l = some (option_Twice.go l []) := if_pos hw
  refine Ev.const ?_
  unfold terms_Read.fin
  by_cases ha : allr l = true
  · rw [if_pos ha, if_pos rfl, htw, Option.bind_some]
    cases ht : option_Twice.go l [] with
    | false => rw [if_neg (by decide), if_pos ⟨ha, rfl⟩]; rfl
    | true => rw [if_pos rfl, if_neg (fun q => by cases q.2)]; rfl
  · rw [if_neg ha, if_neg (by simp), if_neg (fun q => ha q.1)]; rfl
theorem rfind_loop (l : List Opt) (hm : l.length ≤ 4611686018427387904) (a : Int) (d : Nat) : ∀ i : Nat, l.length - i = d → i ≤ l.length → ∃ r, Ev (fun k => umpireref12_Find.l0 k l a i) r ∧ (r ≥ 0 ↔ a ∈ (l.drop i).map (·.f0)) := by
  induction d with
  | zero =>
    intro i hd hi
    refine ⟨-1, Ev.step (fun k => by rw [umpireref12_Find.l0, if_neg (by omega)]) (Ev.now _), ?_⟩
    rw [List.drop_eq_nil_of_le (by omega)]
    simp
  | succ d ih =>
    intro i hd hi
    have hlt : i < l.length := by omega
    have e1 := opt_at l i hlt
    have hdr : l.drop i = l[i] :: l.drop (i + 1) := List.drop_eq_getElem_cons hlt
    have hw : wrap64 ((i : Int) + 1) = ((i + 1 : Nat) : Int) := by rw [w64 (by omega) (by omega)]; omega
    rw [hdr, List.map_cons]
    by_cases he : l[i].f0 = a
    · refine ⟨(i : Int), Ev.step (fun k => by rw [umpireref12_Find.l0, if_pos (by omega), if_pos (by omega), e1, if_pos he]) (Ev.now _), ?_⟩
      exact ⟨fun _ => by rw [← he]; exact List.mem_cons_self .., fun _ => by omega⟩
    · obtain ⟨r, h1, h2⟩ := ih (i + 1) (by omega) (by omega)
      refine ⟨r, Ev.step (fun k => by rw [umpireref12_Find.l0, if_pos (by omega), if_pos (by omega), e1, if_neg he, hw]) h1, ?_⟩
      rw [h2, List.mem_cons]
      exact ⟨.inr, fun q => q.resolve_left (fun e => he e.symm)⟩
theorem rfind_spec (l : List Opt) (hm : l.length ≤ 4611686018427387904) (a : Int) : ∃ r, Ev (fun k => umpireref12_Find.f k l a) r ∧ (r ≥ 0 ↔ a ∈ l.map (·.f0)) := by
  obtain ⟨r, h1, h2⟩ := rfind_loop l hm a l.length 0 (by omega) (by omega)
  rw [List.drop_zero] at h2
  exact ⟨r, h1, h2⟩
theorem asks_spec (l : List Int) (hb : Bytes l) (h : askv l ≠ 0) : umpireref14_asks.f l = some (askv l) := by
  unfold askv at h ⊢
  by_cases h2 : l.length < 2
  · rw [if_pos h2] at h; exact absurd rfl h
  · rw [if_neg h2] at h ⊢
    have h0 := hb.at 0
    have h1 := hb.at 1
    have hw : wrap64 (wrap64 (256 * wrap64 (rd l 0)) + wrap64 (rd l 1)) = 256 * rd l 0 + rd l 1 := by
      rw [w64 (x := rd l 0) (by omega) (by omega), w64 (x := rd l 1) (by omega) (by omega), w64 (x := 256 * rd l 0) (by omega) (by omega), w64 (by omega) (by omega)]
    unfold umpireref14_asks.f
    rw [if_pos (by omega), if_pos (by omega), hw]
    generalize 256 * rd l 0 + rd l 1 = n at h ⊢
    by_cases n1 : n = 49187
    · rw [if_pos n1] at h ⊢
      rw [if_pos n1]
      by_cases hl : l.length = 2
      · rw [if_pos hl, n1]
      · rw [if_neg hl] at h; exact absurd rfl h
    · rw [if_neg n1] at h ⊢
      rw [if_neg n1]
      by_cases n2 : n = 49699
      · rw [if_pos n2] at h ⊢
        rw [if_pos n2]
        by_cases hl : l.length = 3 ∧ rd l 2 = 5
        · rw [if_pos hl, n2]
        · rw [if_neg hl] at h; exact absurd rfl h
      · rw [if_neg n2, if_neg n2]
theorem rtread_loop (l : List Opt) (h : Opts l) (hm : l.length ≤ 4611686018427387904) (d : Nat) : ∀ (i : Nat) (s : List Int) (t : Tm), l.length - i = d → i ≤ l.length → (∀ a, a ∈ s ↔ a ∈ (l.take i).map (·.f0)) →
    Ev (fun k => umpireref14_Read.l0 k l i t.f0 t.f1 t.f2 t.f3 t.f4 t.f5 t.f6 t.f7 t.f8 t.f9) (tup (rres s t (l.drop i))) := by
  induction d with
  | zero =>
    intro i s t hd hi hs
    rw [List.drop_eq_nil_of_le (by omega)]
    refine Ev.step (fun k => by rw [umpireref14_Read.l0, if_neg (by omega)]) ?_
    exact Ev.now _
  | succ d ih =>
    intro i s t hd hi hs
    have hlt : i < l.length := by omega
    have e1 := opt_at l i hlt
    have hdr : l.drop i = l[i] :: l.drop (i + 1) := List.drop_eq_getElem_cons hlt
    have hw : wrap64 ((i : Int) + 1) = ((i + 1 : Nat) : Int) := by rw [w64 (by omega) (by omega)]; omega
    have htk : l.take (i + 1) = l.take i ++ [l[i]] := List.take_succ_eq_append_getElem hlt
    have hx := h l[i] (List.getElem_mem hlt)
    have ih2 := fun t => ih (i + 1) (l[i].f0 :: s) t (by omega) (by omega) (fun a => by rw [htk, List.map_append, List.mem_append, List.mem_cons, hs a]; simp [or_comm])
    obtain ⟨r, hf1, hf2⟩ := rfind_spec (l.take i) (by rw [List.length_take]; omega) l[i].f0
    have hin : (decide (r ≥ 0)) = decide (l[i].f0 ∈ s) := decide_eq_decide.2 (by rw [hf2, hs])
    rw [hdr]
    generalize l[i] = x at e1 hx ih2 hf1 hf2 hin ⊢
    obtain ⟨hwf, hb, hlen⟩ := hx
    refine Ev.step (fun k => by rw [umpireref14_Read.l0, if_pos (by omega), if_pos (by omega), e1]) ?_
    refine Ev.bind (rright_spec x.f0 x.f1 hb) ?_
    unfold rres
    have hbad : Ev (fun k => umpireref14_Read.j1 k l i true t.f0 t.f1 t.f2 t.f3 t.f4 t.f5 t.f6 t.f7 t.f8 t.f9 x.f0 x.f1) (tup (terms_readers.T.zero, false)) := by
      refine Ev.step (fun k => by rw [umpireref14_Read.j1, if_pos rfl]) ?_
      exact Ev.now _
    cases hr : rightv x.f0 x.f1 with
    | false =>
      rw [if_neg (by simp)]
      exact Ev.congr (fun k => if_neg (by decide)) hbad
    | true =>
      refine Ev.congr (fun k => if_pos rfl) ?_
      refine Ev.congr (fun k => if_pos (by omega)) ?_
      rw [Int.toNat_natCast]
      refine Ev.bind hf1 ?_
      rw [hin]
      by_cases hs2 : x.f0 ∈ s
      · rw [if_neg (fun q => q.2 hs2), decide_eq_true hs2]
        exact hbad
      · rw [if_pos ⟨rfl, hs2⟩, decide_eq_false hs2]
        refine Ev.step (fun k => by rw [umpireref14_Read.j1, if_neg (by decide), hw]) ?_
        have ih3 := ih2 (tellv x.f0 t x.f1)
        unfold rightv at hr
        unfold tellv at ih3 ⊢
        by_cases t1 : x.f0 = 1
        · rw [if_pos t1] at hr
          have hl2 : x.f1.length = 2 := by have := beq_iff_eq.1 hr; omega
          rw [if_pos t1, if_pos hl2] at ih3 ⊢
          refine Ev.congr (fun k => if_pos t1) ?_
          refine Ev.bind (rget_spec x.f1 hb (by omega) true) ?_
          exact ih3
        rw [if_neg t1] at hr ih3 ⊢
        refine Ev.congr (fun k => if_neg t1) ?_
        by_cases t2 : x.f0 = 2
        · rw [if_pos t2] at hr
          have hl2 : x.f1.length = 4 := by have := beq_iff_eq.1 hr; omega
          rw [if_pos t2, if_pos hl2] at ih3 ⊢
          refine Ev.congr (fun k => if_pos t2) ?_
          refine Ev.bind (rget_spec x.f1 hb (by omega) true) ?_
          exact ih3
        rw [if_neg t2] at hr ih3 ⊢
        refine Ev.congr (fun k => if_neg t2) ?_
        by_cases t3 : x.f0 = 3
        · rw [if_pos t3] at hr ih3 ⊢
          refine Ev.congr (fun k => if_pos t3) ?_
          have ha := asks_spec x.f1 hb (by simpa using hr)
          refine Ev.congr (fun k => by rw [ha, Option.bind_some]) ?_
          exact ih3
        rw [if_neg t3] at hr ih3 ⊢
        refine Ev.congr (fun k => if_neg t3) ?_
        by_cases t4 : x.f0 = 4
        · rw [if_pos t4] at ih3 ⊢
          exact Ev.congr (fun k => if_pos t4) ih3
        rw [if_neg t4] at hr ih3 ⊢
        refine Ev.congr (fun k => if_neg t4) ?_
        by_cases t5 : x.f0 = 5
        · rw [if_pos t5] at hr
          have hl2 : x.f1.length = 4 := by
            have := (Bool.and_eq_true _ _ ▸ hr).1
            have := beq_iff_eq.1 this
            omega
          rw [if_pos t5, if_pos hl2] at ih3 ⊢
          refine Ev.congr (fun k => if_pos t5) ?_
          refine Ev.bind (rget_spec x.f1 hb (by omega) true) ?_
          exact ih3
        rw [if_neg t5] at hr ih3 ⊢
        refine Ev.congr (fun k => if_neg t5) ?_
        by_cases t7 : x.f0 = 7
        · rw [if_pos t7] at ih3 ⊢
          exact Ev.congr (fun k => if_pos t7) ih3
        rw [if_neg t7] at hr ih3 ⊢
        refine Ev.congr (fun k => if_neg t7) ?_
        by_cases t8 : x.f0 = 8
        · rw [if_pos t8] at ih3 ⊢
          exact Ev.congr (fun k => if_pos t8) ih3
        · rw [if_neg t8] at hr; cases hr
theorem rtread_spec (l : List Opt) (h : Opts l) (hm : l.length ≤ 4611686018427387904) : Ev (fun k => umpireref14_Read.f k l) (tup (rres [] terms_readers.T.zero l)) := by
  have := rtread_loop l h hm l.length 0 [] terms_readers.T.zero (by omega) (by omega) (fun a => by simp)
  rw [List.drop_zero] at this
  exact this
def loginv : List Opt → Int
  | [] => 0
  | x :: m => if x.f0 = 3 ∧ rightv x.f0 x.f1 = true then askv x.f1 else loginv m
theorem right3 (x : Opt) (h : x.f0 = 3) : rightv x.f0 x.f1 = (askv x.f1 != 0) := by
  unfold rightv
  rw [if_neg (by omega), if_neg (by omega), if_pos h]
theorem login_loop (l : List Opt) (h : Opts l) (hm : l.length ≤ 4611686018427387904) (d : Nat) : ∀ i : Nat, l.length - i = d → i ≤ l.length → Ev (fun k => terms_Login.l0 k l l.length i) (loginv (l.drop i)) := by
  induction d with
  | zero =>
    intro i hd hi
    rw [List.drop_eq_nil_of_le (by omega)]
    exact Ev.step (f := fun _ => some 0) (fun k => by rw [terms_Login.l0, if_neg (by omega)]) (Ev.now _)
  | succ d ih =>
    intro i hd hi
    have hlt : i < l.length := by omega
    have e1 := opt_at l i hlt
    have hdr : l.drop i = l[i] :: l.drop (i + 1) := List.drop_eq_getElem_cons hlt
    have hw : wrap64 ((i : Int) + 1) = ((i + 1 : Nat) : Int) := by rw [w64 (by omega) (by omega)]; omega
    have hx := h l[i] (List.getElem_mem hlt)
    have ih2 := ih (i + 1) (by omega) (by omega)
    rw [hdr]
    generalize l[i] = x at e1 hx ⊢
    obtain ⟨hwf, hb, hlen⟩ := hx
    refine Ev.step (fun k => by rw [terms_Login.l0, if_pos (by omega), if_pos (by omega), if_pos (by omega), e1, hw]) ?_
    unfold loginv
    by_cases t3 : x.f0 = 3
    · refine Ev.congr (fun k => if_pos t3) ?_
      refine Ev.bind (right_spec x.f0 x.f1 hwf hb hlen) ?_
      cases hr : rightv x.f0 x.f1 with
      | true =>
        rw [if_pos ⟨t3, rfl⟩]
        refine Ev.congr (fun k => if_pos rfl) ?_
        exact Ev.bind (asked_spec x.f1 hb hlen) (Ev.now _)
      | false =>
        rw [if_neg (by simp)]
        exact Ev.congr (fun k => if_neg (by decide)) ih2
    · rw [if_neg (fun q => t3 q.1)]
      exact Ev.congr (fun k => if_neg t3) ih2
theorem rlogin_loop (l : List Opt) (h : Opts l) (hm : l.length ≤ 4611686018427387904) (d : Nat) : ∀ i : Nat, l.length - i = d → i ≤ l.length → Ev (fun k => umpireref14_Login.l0 k l i) (loginv (l.drop i)) := by
  induction d with
  | zero =>
    intro i hd hi
    rw [List.drop_eq_nil_of_le (by omega)]
    exact Ev.step (f := fun _ => some 0) (fun k => by rw [umpireref14_Login.l0, if_neg (by omega)]) (Ev.now _)
  | succ d ih =>
    intro i hd hi
    have hlt : i < l.length := by omega
    have e1 := opt_at l i hlt
    have hdr : l.drop i = l[i] :: l.drop (i + 1) := List.drop_eq_getElem_cons hlt
    have hw : wrap64 ((i : Int) + 1) = ((i + 1 : Nat) : Int) := by rw [w64 (by omega) (by omega)]; omega
    have hx := h l[i] (List.getElem_mem hlt)
    have ih2 := ih (i + 1) (by omega) (by omega)
    rw [hdr]
    generalize l[i] = x at e1 hx ⊢
    obtain ⟨hwf, hb, hlen⟩ := hx
    refine Ev.step (fun k => by rw [umpireref14_Login.l0, if_pos (by omega), if_pos (by omega), e1, hw]) ?_
    unfold loginv
    by_cases t3 : x.f0 = 3
    · refine Ev.congr (fun k => if_pos t3) ?_
      refine Ev.bind (rright_spec x.f0 x.f1 hb) ?_
      cases hr : rightv x.f0 x.f1 with
      | true =>
        rw [if_pos ⟨t3, rfl⟩]
        refine Ev.congr (fun k => if_pos rfl) ?_
        have ha := asks_spec x.f1 hb (by rw [right3 x t3] at hr; simpa using hr)
        exact Ev.congr (fun k => by rw [ha, Option.bind_some]) (Ev.now _)
      | false =>
        rw [if_neg (by simp)]
        exact Ev.congr (fun k => if_neg (by decide)) ih2
    · rw [if_neg (fun q => t3 q.1)]
      exact Ev.congr (fun k => if_neg t3) ih2
theorem login_spec (l : List Opt) (h : Opts l) (hm : l.length ≤ 4611686018427387904) : Ev (fun k => terms_Login.f k l) (loginv l) := by
  have := login_loop l h hm l.length 0 (by omega) (by omega)
  rw [List.drop_zero] at this
  exact this
theorem rlogin_spec (l : List Opt) (h : Opts l) (hm : l.length ≤ 4611686018427387904) : Ev (fun k => umpireref14_Login.f k l) (loginv l) := by
  have := rlogin_loop l h hm l.length 0 (by omega) (by omega)
  rw [List.drop_zero] at this
  exact this
/-- Few options: what the reference's answer says. -/
theorem ofew_loop (l : List Opt) (hm : l.length ≤ 4611686018427387904) (d : Nat) : ∀ i : Nat, l.length - i = d → i ≤ l.length → ∃ b, Ev (fun k => umpireref12_Few.l0 k l i) b ∧ (b = true → l.length ≤ 50) := by
  induction d with
  | zero =>
    intro i hd hi
    refine ⟨decide ((l.length : Int) ≤ 50), Ev.step (fun k => by rw [umpireref12_Few.l0, if_neg (by omega)]) (Ev.step (fun k => by rw [umpireref12_Few.j1, if_neg (by decide)]) (Ev.now _)), fun h => ?_⟩
    have := of_decide_eq_true h
    omega
  | succ d ih =>
    intro i hd hi
    have hlt : i < l.length := by omega
    have e1 := opt_at l i hlt
    have hw : wrap64 ((i : Int) + 1) = ((i + 1 : Nat) : Int) := by rw [w64 (by omega) (by omega)]; omega
    by_cases h1 : i < 100
    · by_cases h2 : ((rd_T55 l (i : Int)).f1.length : Int) > 1000
      · refine ⟨false, Ev.step (fun k => by rw [umpireref12_Few.l0, if_pos (by omega), decide_eq_true (by omega)]) (Ev.step (fun k => by rw [umpireref12_Few.j1, if_pos rfl, if_pos (by omega), if_pos (by omega), if_pos h2]) (Ev.now _)), fun h => by cases h⟩
      · obtain ⟨b, h3, h4⟩ := ih (i + 1) (by omega) (by omega)
        exact ⟨b, Ev.step (fun k => by rw [umpireref12_Few.l0, if_pos (by omega), decide_eq_true (by omega)]) (Ev.step (fun k => by rw [umpireref12_Few.j1, if_pos rfl, if_pos (by omega), if_pos (by omega), if_neg h2, hw]) h3), h4⟩
    · refine ⟨decide ((l.length : Int) ≤ 50), Ev.step (fun k => by rw [umpireref12_Few.l0, if_pos (by omega), decide_eq_false (by omega)]) (Ev.step (fun k => by rw [umpireref12_Few.j1, if_neg (by decide)]) (Ev.now _)), fun h => ?_⟩
      have := of_decide_eq_true h
      omega
theorem ofew_spec (l : List Opt) (hm : l.length ≤ 4611686018427387904) : ∃ b, Ev (fun k => umpireref12_Few.f k l) b ∧ (b = true → l.length ≤ 50) := ofew_loop l hm l.length 0 (by omega) (by omega)
theorem opts_wf {l : List Opt} (h : ∀ a ∈ l, (fun x : Opt => (fun a : Int => (Lit.int .i64 a).wf = true) x.f0 ∧ (fun l : List Int => l.length * 1 ≤ 140737488351232 ∧ ∀ a ∈ l, (fun a : Int => (Lit.int .u8 a).wf = true) a) x.f1) a) : Opts l :=
  fun x hx => ⟨(h x hx).1, bytes_wf (h x hx).2.2, by have := (h x hx).2.1; omega⟩
end Go.Proofs.Ytnjimecjpnjojaa.Q

/- octet.Behind, told by lists. -/
namespace Go.Proofs.Ytnjimecjpnjojaa.Q
open Go.RowKit Go.Proofs.Ytnjimecjpnjojaa.Print Go.Proofs.YtnjimecjpnjojaaW.PrintWords Go.Proofs.YtnjimecjpnjojaaW.PrintLast Go.Proofs.YtnjimecjpnjojaaW.PrintMore
set_option linter.unusedVariables false
set_option linter.unusedSimpArgs false

/-- What stands behind a place. -/
def behindv (l : List Int) (at_ : Int) : List Int := l.drop at_.toNat
theorem behind_spec (l : List Int) (at_ : Int) (hl : l.length < 140737488355328) : octet_Behind.f l at_ = some (behindv l at_) := by
  unfold octet_Behind.f behindv
  have h : mn (mx at_ 0) (l.length : Int) = (min at_.toNat l.length : Nat) := by
    unfold mn mx
    split <;> split <;> omega
  rw [h, if_pos (by omega), if_pos (by omega), clone_spec _ (by rw [List.length_drop]; omega)]
  simp only [Option.bind_some, Int.toNat_natCast]
  congr 1
  rcases Nat.le_total at_.toNat l.length with e | e
  · rw [Nat.min_eq_left e]
  · rw [Nat.min_eq_right e, List.drop_of_length_le (Nat.le_refl _), List.drop_of_length_le e]
end Go.Proofs.Ytnjimecjpnjojaa.Q

/- What of a list of options is bad: terms.Bad and the reference's. -/
namespace Go.Proofs.Ytnjimecjpnjojaa.Q
open Go.RowKit Go.Proofs.Ytnjimecjpnjojaa.Print Go.Proofs.YtnjimecjpnjojaaW.PrintWords Go.Proofs.YtnjimecjpnjojaaW.PrintLast Go.Proofs.YtnjimecjpnjojaaW.PrintMore
set_option linter.unusedVariables false
def badv (s : List Int) (a ch : List Opt) : List Opt → List Opt × List Opt
  | [] => (a, ch)
  | x :: m => if (!knownv x.f0 || decide (x.f0 ∈ s)) = true then badv (x.f0 :: s) (a ++ [x]) ch m else if rightv x.f0 x.f1 = true then badv (x.f0 :: s) a ch m else badv (x.f0 :: s) a (ch ++ [⟨x.f0, terms_instead.bytes x.f0⟩]) m
theorem badv_length (l : List Opt) : ∀ (s : List Int) (a ch : List Opt), (badv s a ch l).1.length ≤ a.length + l.length ∧ (badv s a ch l).2.length ≤ ch.length + l.length := by
  induction l with
  | nil => intro s a ch; exact ⟨Nat.le_refl _, Nat.le_refl _⟩
  | cons x m ih =>
    intro s a ch
    unfold badv
    split
    · have := ih (x.f0 :: s) (a ++ [x]) ch
      simp only [List.length_append, List.length_cons, List.length_nil] at this ⊢
      omega
    · split
      · have := ih (x.f0 :: s) a ch
        simp only [List.length_cons] at this ⊢
        omega
      · have := ih (x.f0 :: s) a (ch ++ [⟨x.f0, terms_instead.bytes x.f0⟩])
        simp only [List.length_append, List.length_cons, List.length_nil] at this ⊢
        omega
theorem tbad_go (l : List Opt) : ∀ (s : List Int) (a ch : List Opt), Opts l → Ev (fun k => terms_Bad.go k l s a ch) (badv s a ch l) := by
  induction l with
  | nil => intro s a ch _; exact Ev.now _
  | cons x m ih =>
    intro s a ch h
    obtain ⟨hw, hb, hm⟩ := h x (List.mem_cons_self ..)
    have hd : behindv x.f1 0 = x.f1 := List.drop_zero
    refine Ev.congr (fun k => by rw [terms_Bad.go, known_spec x.f0 hw, Option.bind_some]) ?_
    unfold badv
    by_cases hc : (!knownv x.f0 || decide (x.f0 ∈ s)) = true
    · rw [if_pos hc]
      refine Ev.congr (fun k => by rw [if_pos hc, behind_spec x.f1 0 hm, Option.bind_some, hd]) ?_
      exact ih _ _ _ h.tail
    · rw [if_neg hc]
      refine Ev.congr (fun k => if_neg hc) ?_
      refine Ev.bind (right_spec x.f0 x.f1 hw hb hm) ?_
      cases hr : rightv x.f0 x.f1 with
      | true => exact Ev.congr (fun k => if_pos rfl) (ih _ _ _ h.tail)
      | false => exact Ev.congr (fun k => if_neg (by decide)) (ih _ _ _ h.tail)
theorem tbad_spec (l : List Opt) (h : Opts l) (hl : l.length < 1000) : Ev (fun k => terms_Bad.f k l) (badv [] [] [] l) := by
  unfold terms_Bad.f
  exact Ev.congr (fun k => if_pos ⟨all_wf l h, hl⟩) (tbad_go l _ _ _ h)
theorem seen_spec (l : List Opt) (hm : l.length ≤ 4611686018427387904) (j : Nat) (s : List Int) (x : Int) (hs : ∀ a, a ∈ s ↔ a ∈ (l.take j).map (·.f0)) : Ev (fun k => umpireref14_Bad.seen k l j x) (!knownv x || decide (x ∈ s)) := by
  unfold umpireref14_Bad.seen
  refine Ev.congr (fun k => by rw [rknown_spec, Option.bind_some]) ?_
  cases hk : knownv x with
  | false => exact Ev.congr (fun k => if_neg (by decide)) (Ev.now _)
  | true =>
    refine Ev.congr (fun k => if_pos rfl) ?_
    obtain ⟨r, hf1, hf2⟩ := rfind_spec (l.take j) (by rw [List.length_take]; omega) x
    refine Ev.bind hf1 ?_
    have hin : (decide (r ≥ 0)) = decide (x ∈ s) := decide_eq_decide.2 (by rw [hf2, hs])
    rw [hin, Bool.not_true, Bool.false_or]
    exact Ev.now _
theorem rbad_go (l : List Opt) (hm : l.length ≤ 4611686018427387904) (m : List Opt) : ∀ (j : Nat) (s : List Int) (a ch : List Opt), l.drop j = m → (∀ a, a ∈ s ↔ a ∈ (l.take j).map (·.f0)) → Opts m → Ev (fun k => umpireref14_Bad.go k l m j a ch) (badv s a ch m) := by
  induction m with
  | nil => intro j s a ch _ _ _; exact Ev.now _
  | cons x m ih =>
    intro j s a ch hd hs h
    obtain ⟨hw, hb, hx⟩ := h x (List.mem_cons_self ..)
    have hlt : j < l.length := by
      rcases Nat.lt_or_ge j l.length with q | q
      · exact q
      · rw [List.drop_eq_nil_of_le q] at hd; cases hd
    have hdr : l.drop j = l[j] :: l.drop (j + 1) := List.drop_eq_getElem_cons hlt
    rw [hdr] at hd
    obtain ⟨e1, e2⟩ := List.cons.inj hd
    have htk : l.take (j + 1) = l.take j ++ [x] := by rw [← e1]; exact List.take_succ_eq_append_getElem hlt
    have ih2 := fun a ch => ih (j + 1) (x.f0 :: s) a ch e2 (fun a => by rw [htk, List.map_append, List.mem_append, List.mem_cons, hs a]; simp [or_comm]) h.tail
    refine Ev.congr (fun k => by rw [umpireref14_Bad.go]) ?_
    refine Ev.bind (seen_spec l hm j s x.f0 hs) ?_
    unfold badv
    by_cases hc : (!knownv x.f0 || decide (x.f0 ∈ s)) = true
    · rw [if_pos hc]
      exact Ev.congr (fun k => if_pos hc) (ih2 _ _)
    · rw [if_neg hc]
      refine Ev.congr (fun k => if_neg hc) ?_
      refine Ev.bind (rright_spec x.f0 x.f1 hb) ?_
      cases hr : rightv x.f0 x.f1 with
      | true => exact Ev.congr (fun k => if_pos rfl) (ih2 _ _)
      | false => exact Ev.congr (fun k => if_neg (by decide)) (ih2 _ _)
theorem rbad_spec (l : List Opt) (h : Opts l) (hl : l.length < 1000) : Ev (fun k => umpireref14_Bad.f k l) (badv [] [] [] l) := by
  unfold umpireref14_Bad.f
  exact Ev.congr (fun k => if_pos hl) (rbad_go l (by omega) l 0 [] [] [] List.drop_zero (fun a => by simp) h)
end Go.Proofs.Ytnjimecjpnjojaa.Q

/- A list of options is the same as itself. -/
namespace Go.Proofs.Ytnjimecjpnjojaa.Q
open Go.RowKit Go.Proofs.Ytnjimecjpnjojaa.Print Go.Proofs.YtnjimecjpnjojaaW.PrintWords Go.Proofs.YtnjimecjpnjojaaW.PrintLast Go.Proofs.YtnjimecjpnjojaaW.PrintMore
set_option linter.unusedVariables false
set_option linter.unusedSimpArgs false
theorem osame_loop (l : List Opt) (hm : l.length ≤ 4611686018427387904) (d : Nat) : ∀ i : Nat, l.length - i = d → i ≤ l.length → Ev (fun k => umpireref12_Same.l0 k l l i) true := by
  induction d with
  | zero =>
    intro i hd hi
    exact Ev.step (fun k => by rw [umpireref12_Same.l0, if_neg (by omega)]) (Ev.now _)
  | succ d ih =>
    intro i hd hi
    have hw : wrap64 ((i : Int) + 1) = ((i + 1 : Nat) : Int) := by rw [w64 (by omega) (by omega)]; omega
    have h1 : ∀ (t : Int) (b : List Int), umpireref12_One.f t b t b = some true := fun t b => by unfold umpireref12_One.f; rw [if_pos rfl, beq_self_eq_true]
    refine Ev.step (fun k => by rw [umpireref12_Same.l0, if_pos (by omega), if_pos (by omega), if_pos (by omega), h1, Option.bind_some, if_pos rfl, hw]) ?_
    exact ih (i + 1) (by omega) (by omega)
theorem osame_refl (l : List Opt) (hm : l.length ≤ 4611686018427387904) : Ev (fun k => umpireref12_Same.f k l l) true := by
  unfold umpireref12_Same.f
  exact Ev.congr (fun k => if_pos rfl) (osame_loop l hm l.length 0 (by omega) (by omega))
end Go.Proofs.Ytnjimecjpnjojaa.Q

/- The anchor of the terms' laws answers true. -/
namespace Go.Proofs.Ytnjimecjpnjojaa.Pure
open Go.RowKit Go.Proofs.Ytnjimecjpnjojaa.Print Go.Proofs.Ytnjimecjpnjojaa.Q Go.Proofs.YtnjimecjpnjojaaW.PrintWords Go.Proofs.YtnjimecjpnjojaaW.PrintLast Go.Proofs.YtnjimecjpnjojaaW.PrintMore

theorem awake_terms : Ev (fun k => umpirelaw14_awake.f k) true := Ev.of (fun k => umpirelaw14_awake.mono k) (k := 60) (by decide +kernel)
end Go.Proofs.Ytnjimecjpnjojaa.Pure

/- What came in as data, read as values: one lemma a kind. -/
namespace Go.Proofs.Ytnjimecjpnjojaa.Q
open Go Go.RowKit Go.ChangeShapes Go.WideShapes Go.Deep Go.Proofs.YtnjimecjpnjojaaW.PrintWords Go.Proofs.YtnjimecjpnjojaaW.PrintLast Go.Proofs.YtnjimecjpnjojaaW.PrintMore
set_option linter.unusedVariables false

/-- A datum of type t, read as a kind's value; Wf: what is told of it. -/
def Opens {α : Type} (P : Program) (t : TypeId) (d : Kd α) (Wf : α → Prop) : Prop :=
  ∀ (H : Type) (enc : TypeId × Value → H) (w : World) (base : Nat) (held : Bool) (fuel : Nat) (cs : List Value) (x : DataW H × List MemPlace),
    DataW.trod enc P w base (fun _ => true) held fuel t cs = some x → (x.1.weights P t).all (· ≤ reachBytes) = true → ∃ a, d.K w a cs ∧ Wf a

theorem Opens.imp {α : Type} {P : Program} {t : TypeId} {d : Kd α} {Wf Wf' : α → Prop} (h : Opens P t d Wf) (hi : ∀ a, Wf a → Wf' a) : Opens P t d Wf' := by
  intro H enc w base held fuel cs x hx hw
  obtain ⟨a, h1, h2⟩ := h H enc w base held fuel cs x hx hw
  exact ⟨a, h1, hi a h2⟩

theorem Opens.int {P : Program} {t : TypeId} {k : IntKind} (ht : P.underlying t = some (.int k)) : Opens P t (Kd.int k) (fun a => (Lit.int k a).wf = true) := by
  intro H enc w base held fuel cs x h _
  cases fuel with
  | zero => cases h
  | succ fuel =>
    match cs with
    | [.int k' n] =>
      simp only [DataW.trod, ht] at h
      by_cases hk : k' = k ∧ (Lit.int k n).wf = true
      · obtain ⟨rfl, hw⟩ := hk
        exact ⟨n, rfl, hw⟩
      · rw [if_neg hk] at h
        cases h
    | [] => simp [DataW.trod, ht] at h
    | v :: u :: r => simp [DataW.trod, ht] at h
    | [.bool _] => simp [DataW.trod, ht] at h
    | [.float _ _] => simp [DataW.trod, ht] at h
    | [.complex _ _ _] => simp [DataW.trod, ht] at h
    | [.string _] => simp [DataW.trod, ht] at h
    | [.pointer _] => simp [DataW.trod, ht] at h
    | [.slice _ _ _] => simp [DataW.trod, ht] at h
    | [.map _] => simp [DataW.trod, ht] at h
    | [.chan _] => simp [DataW.trod, ht] at h
    | [.func _ _ _] => simp [DataW.trod, ht] at h
    | [.nilFunc] => simp [DataW.trod, ht] at h
    | [.iface _ _] => simp [DataW.trod, ht] at h
    | [.nilIface] => simp [DataW.trod, ht] at h
    | [.agg _] => simp [DataW.trod, ht] at h
    | [.tuple _] => simp [DataW.trod, ht] at h

theorem Opens.bool {P : Program} {t : TypeId} (ht : P.underlying t = some .bool) : Opens P t Kd.bool (fun _ => True) := by
  intro H enc w base held fuel cs x h _
  cases fuel with
  | zero => cases h
  | succ fuel =>
    match cs with
    | [.bool b] => exact ⟨b, rfl, trivial⟩
    | [] => simp [DataW.trod, ht] at h
    | v :: u :: r => simp [DataW.trod, ht] at h
    | [.int _ _] => simp [DataW.trod, ht] at h
    | [.float _ _] => simp [DataW.trod, ht] at h
    | [.complex _ _ _] => simp [DataW.trod, ht] at h
    | [.string _] => simp [DataW.trod, ht] at h
    | [.pointer _] => simp [DataW.trod, ht] at h
    | [.slice _ _ _] => simp [DataW.trod, ht] at h
    | [.map _] => simp [DataW.trod, ht] at h
    | [.chan _] => simp [DataW.trod, ht] at h
    | [.func _ _ _] => simp [DataW.trod, ht] at h
    | [.nilFunc] => simp [DataW.trod, ht] at h
    | [.iface _ _] => simp [DataW.trod, ht] at h
    | [.nilIface] => simp [DataW.trod, ht] at h
    | [.agg _] => simp [DataW.trod, ht] at h
    | [.tuple _] => simp [DataW.trod, ht] at h

theorem Opens.string {P : Program} {t : TypeId} (ht : P.underlying t = some .string) : Opens P t Kd.string (fun s => s.size ≤ 140737488351232) := by
  intro H enc w base held fuel cs x h hw
  cases fuel with
  | zero => cases h
  | succ fuel =>
    match cs with
    | [.string s] =>
      simp only [DataW.trod, ht] at h
      by_cases hs : s.size ≤ maxLen
      · rw [if_pos hs] at h
        cases h
        refine ⟨s, rfl, ?_⟩
        simp [DataW.weights, reachBytes] at hw
        exact of_decide_eq_true hw
      · rw [if_neg hs] at h
        cases h
    | [] => simp [DataW.trod, ht] at h
    | v :: u :: r => simp [DataW.trod, ht] at h
    | [.int _ _] => simp [DataW.trod, ht] at h
    | [.float _ _] => simp [DataW.trod, ht] at h
    | [.complex _ _ _] => simp [DataW.trod, ht] at h
    | [.bool _] => simp [DataW.trod, ht] at h
    | [.pointer _] => simp [DataW.trod, ht] at h
    | [.slice _ _ _] => simp [DataW.trod, ht] at h
    | [.map _] => simp [DataW.trod, ht] at h
    | [.chan _] => simp [DataW.trod, ht] at h
    | [.func _ _ _] => simp [DataW.trod, ht] at h
    | [.nilFunc] => simp [DataW.trod, ht] at h
    | [.iface _ _] => simp [DataW.trod, ht] at h
    | [.nilIface] => simp [DataW.trod, ht] at h
    | [.agg _] => simp [DataW.trod, ht] at h
    | [.tuple _] => simp [DataW.trod, ht] at h

theorem add_add (a : Addr) (m i : Nat) : (a.add m).add i = a.add (m + i) := by
  unfold Addr.add
  by_cases hm : m = 0
  · subst hm
    simp
  · by_cases hi : i = 0
    · subst hi
      simp [hm]
    · simp [hm, hi, Nat.add_assoc]

theorem weightsAll_mem {H : Type} {P : Program} {e : TypeId} {l : List (DataW H)} (h : (DataW.weightsAll P e l).all (· ≤ reachBytes) = true) : ∀ x ∈ l, (x.weights P e).all (· ≤ reachBytes) = true := by
  induction l with
  | nil => intro x hx; cases hx
  | cons a l ih =>
    rw [DataW.weightsAll, List.all_append, Bool.and_eq_true] at h
    intro x hx
    rcases List.mem_cons.1 hx with rfl | hx
    · exact h.1
    · exact ih h.2 x hx

theorem list_of {α : Type} {p : Nat → α → Prop} : ∀ {n : Nat}, (∀ i, i < n → ∃ a, p i a) → ∃ l : List α, l.length = n ∧ ∀ i a, l[i]? = some a → p i a
  | 0, _ => ⟨[], rfl, fun i a h => by simp at h⟩
  | n + 1, h => by
    obtain ⟨l, hl, hp⟩ := list_of (n := n) (fun i hi => h i (by omega))
    obtain ⟨a, ha⟩ := h n (by omega)
    refine ⟨l ++ [a], by simp [hl], fun i b hb => ?_⟩
    by_cases hi : i < l.length
    · rw [List.getElem?_append_left hi] at hb
      exact hp i b hb
    · rw [List.getElem?_append_right (by omega)] at hb
      by_cases h0 : i - l.length = 0
      · rw [h0] at hb
        have e1 : i = n := by omega
        have e2 : a = b := by simpa using hb
        rw [e1, ← e2]
        exact ha
      · obtain ⟨m, hm⟩ : ∃ m, i - l.length = m + 1 := ⟨i - l.length - 1, by omega⟩
        rw [hm] at hb
        simp at hb

theorem Opens.slice {α : Type} {P : Program} {t e : TypeId} {d : Kd α} {Wf : α → Prop} {B : Nat} (ht : P.underlying t = some (.slice e)) (hc : P.cellsOf e = d.sz) (hB : P.bytesOf e = B) (h : Opens P e d Wf) :
    Opens P t (Kd.slice e d) (fun l => l.length * B ≤ 140737488351232 ∧ ∀ a ∈ l, Wf a) := by
  intro H enc w base held fuel cs x hx hw
  rcases open_slice ht hx with ⟨rfl, rfl⟩ | ⟨a, len, cap, m, n, D, Pl, rfl, hb, hl, hm, hmm, rfl, hel⟩
  · exact ⟨[], ⟨none, 0, rfl, Nat.le_refl _, rfl, Nat.zero_le _, fun h0 => absurd h0 (Nat.lt_irrefl 0)⟩, by simp, fun a ha => by cases ha⟩
  · simp only [if_true] at hmm
    subst hmm
    simp only [DataW.weights, ht, List.all_cons, Bool.and_eq_true, List.all_append] at hw
    obtain ⟨hw0, hw1, _⟩ := hw
    have hwe := weightsAll_mem hw1
    have each : ∀ i, i < len → ∃ a' : α, ∃ cs', w.cells? base (a.add (i * P.cellsOf e)) (P.cellsOf e) = some cs' ∧ d.K w a' cs' ∧ Wf a' := by
      intro i hi
      obtain ⟨cs', h1, h2⟩ := hel i (by omega)
      obtain ⟨a', h3, h4⟩ := h H enc w base held n cs' _ h2 (hwe _ (List.mem_map.2 ⟨i, List.mem_range.2 hi, rfl⟩))
      exact ⟨a', cs', h1, h3, h4⟩
    obtain ⟨V, hlV, hV⟩ := list_of each
    have hmax : maxLen = 9223372036854775807 := by decide
    refine ⟨V, ⟨some a, _, by rw [hlV], by omega, ?_⟩, ?_, ?_⟩
    · refine ⟨rfl, by omega, fun _ => ⟨a, rfl, fun j p hp => ?_⟩⟩
      obtain ⟨cs', h1, h2, _⟩ := hV j p hp
      refine ⟨cs', d.K_len h2, h2, fun i u hu => ?_⟩
      rw [hc] at h1
      obtain ⟨_, hlen, hcell⟩ := World.cells?_some h1
      have hi : i < d.sz := by
        have := (List.getElem?_eq_some_iff.1 hu).1
        rw [d.K_len h2] at this
        exact this
      have hci := hcell i hi
      rw [show a.add (j * d.sz + i) = (a.add (j * d.sz)).add i from (add_add a _ _).symm, hci]
      exact hu
    · simp only [List.length_map, List.length_range] at hw0
      simp only [hB, decide_eq_true_eq, reachBytes] at hw0
      refine Nat.le_trans (Nat.mul_le_mul_right _ ?_) hw0
      omega
    · intro a' ha'
      obtain ⟨i, hi, he⟩ := List.getElem_of_mem ha'
      obtain ⟨_, _, _, h4⟩ := hV i a' (by rw [List.getElem?_eq_getElem hi, he])
      exact h4

/-- Fields in line, from the cell 'off' on. -/
def OpensAll {α : Type} (P : Program) (off : Nat) (fs : List Field) (d : Kd α) (Wf : α → Prop) : Prop :=
  ∀ (H : Type) (enc : TypeId × Value → H) (w : World) (base : Nat) (held : Bool) (fuel : Nat) (cs : List Value) (xs : List (DataW H × List MemPlace)),
    (fs.mapM fun f => DataW.trod enc P w base (fun _ => true) held fuel f.type ((cs.drop f.offset).take (P.cellsOf f.type))) = some xs →
    (DataW.weightsEach P (fs.map (·.type)) (xs.map (·.1))).all (· ≤ reachBytes) = true → off + d.sz = cs.length → ∃ a, d.K w a (cs.drop off) ∧ Wf a

theorem OpensAll.one {α : Type} {P : Program} {off : Nat} {f : Field} {d : Kd α} {Wf : α → Prop} (hf : f.offset = off) (hc : P.cellsOf f.type = d.sz) (h : Opens P f.type d Wf) : OpensAll P off [f] d Wf := by
  intro H enc w base held fuel cs xs hx hw hl
  simp only [List.mapM_cons, List.mapM_nil, Option.bind_eq_bind, Option.pure_def, Option.bind_eq_some_iff, Option.some.injEq] at hx
  obtain ⟨x, hx, ys, rfl, rfl⟩ := hx
  rw [hf, hc, List.take_of_length_le (by rw [List.length_drop]; omega)] at hx
  simp only [List.map_cons, List.map_nil, DataW.weightsEach, List.append_nil] at hw
  exact h H enc w base held fuel _ x hx hw

theorem OpensAll.more {α β : Type} {P : Program} {off : Nat} {f : Field} {fs : List Field} {d : Kd α} {d' : Kd β} {Wf : α → Prop} {Wf' : β → Prop} (hf : f.offset = off) (hc : P.cellsOf f.type = d.sz) (h : Opens P f.type d Wf) (h' : OpensAll P (off + d.sz) fs d' Wf') :
    OpensAll P off (f :: fs) (Kd.pair d d') (fun a => Wf a.1 ∧ Wf' a.2) := by
  intro H enc w base held fuel cs xs hx hw hl
  simp only [List.mapM_cons, Option.bind_eq_bind, Option.pure_def, Option.bind_eq_some_iff, Option.some.injEq] at hx
  obtain ⟨x, hx, ys, hys, rfl⟩ := hx
  rw [hf, hc] at hx
  simp only [List.map_cons, DataW.weightsEach, List.all_append, Bool.and_eq_true] at hw
  have hl' : off + (d.sz + d'.sz) = cs.length := hl
  obtain ⟨a, h1, h2⟩ := h H enc w base held fuel _ x hx hw.1
  obtain ⟨b, h3, h4⟩ := h' H enc w base held fuel cs ys hys hw.2 (by omega)
  refine ⟨(a, b), ⟨(cs.drop off).take d.sz, cs.drop (off + d.sz), ?_, h1, h3⟩, h2, h4⟩
  rw [← List.drop_drop, List.take_append_drop]

theorem Opens.struct {α : Type} {P : Program} {t : TypeId} {fs : Array Field} {d : Kd α} {Wf : α → Prop} (ht : P.underlying t = some (.struct fs)) (hc : P.cellsOf t = d.sz) (h : OpensAll P 0 fs.toList d Wf) : Opens P t d Wf := by
  intro H enc w base held fuel cs x hx hw
  cases fuel with
  | zero => cases hx
  | succ fuel =>
    have hx' : (if cs.length = P.cellsOf t then (fs.toList.mapM fun f => DataW.trod enc P w base (fun _ => true) held fuel f.type ((cs.drop f.offset).take (P.cellsOf f.type))).map fun xs => (.agg (xs.map (·.1)), xs.flatMap (·.2)) else none) = some x := by
      simpa only [DataW.trod, ht] using hx
    by_cases hl : cs.length = P.cellsOf t
    · rw [if_pos hl, Option.map_eq_some_iff] at hx'
      obtain ⟨xs, hxs, rfl⟩ := hx'
      simp only [DataW.weights, ht] at hw
      have := h H enc w base held fuel cs xs hxs hw (by omega)
      simpa using this
    · rw [if_neg hl] at hx'
      cases hx'

theorem Opens.iso {α β : Type} {P : Program} {t : TypeId} {d : Kd α} {Wf : α → Prop} (f : β → α) (g : α → β) (hg : ∀ a, f (g a) = a) (h : Opens P t d Wf) : Opens P t (Kd.iso d f) (fun b => Wf (f b)) := by
  intro H enc w base held fuel cs x hx hw
  obtain ⟨a, h1, h2⟩ := h H enc w base held fuel cs x hx hw
  exact ⟨g a, show d.K w (f (g a)) cs by rw [hg]; exact h1, show Wf (f (g a)) by rw [hg]; exact h2⟩
end Go.Proofs.Ytnjimecjpnjojaa.Q
