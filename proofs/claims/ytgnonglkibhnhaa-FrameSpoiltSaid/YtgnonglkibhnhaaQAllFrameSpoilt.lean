/- The plain texts that the law FrameSpoilt reaches, one behind the other. -/
import Derived.Test.Ytgnonglkibhnhaa0
import Derived.Test.YtgnonglkibhnhaaF42
import Derived.Test.YtgnonglkibhnhaaF21
import Derived.Test.YtgnonglkibhnhaaF51
import Derived.Test.YtgnonglkibhnhaaF35
import Derived.Test.YtgnonglkibhnhaaF23
import Derived.Test.YtgnonglkibhnhaaF40
import Derived.Test.YtgnonglkibhnhaaF52
import Derived.Test.YtgnonglkibhnhaaF22
import Derived.Test.YtgnonglkibhnhaaF15
import Derived.Test.YtgnonglkibhnhaaF36
import Derived.Test.YtgnonglkibhnhaaF37
import Derived.Test.YtgnonglkibhnhaaF41
import Derived.Test.YtgnonglkibhnhaaF12
import Derived.Test.YtgnonglkibhnhaaF11
import Derived.Test.YtgnonglkibhnhaaF9
import Derived.Test.YtgnonglkibhnhaaF18
import Derived.Test.YtgnonglkibhnhaaF16
import Derived.Test.YtgnonglkibhnhaaF8
import Derived.Deep.Slices
import Derived.ChangeSlices
import Derived.SizedLaws
/- Plain lemmas on numbers, bits and lists. -/
namespace Go.Proofs.Ytgnonglkibhnhaa.Q
open Go.RowKit Go.Proofs.YtgnonglkibhnhaaW.PrintWords Go.Proofs.YtgnonglkibhnhaaW.PrintLast Go.Proofs.YtgnonglkibhnhaaW.PrintMore

/-! ### ranges -/
theorem wf_u8 {x : Int} (h : (Lit.int .u8 x).wf = true) : 0 ≤ x ∧ x < 256 := by
  simp [Lit.wf, IntKind.min, IntKind.max, IntKind.bits, IntKind.signed] at h; omega
theorem wf_u16 {x : Int} (h : (Lit.int .u16 x).wf = true) : 0 ≤ x ∧ x < 65536 := by
  simp [Lit.wf, IntKind.min, IntKind.max, IntKind.bits, IntKind.signed] at h; omega
theorem wf_u32 {x : Int} (h : (Lit.int .u32 x).wf = true) : 0 ≤ x ∧ x < 4294967296 := by
  simp [Lit.wf, IntKind.min, IntKind.max, IntKind.bits, IntKind.signed] at h; omega
theorem wf_u64 {x : Int} (h : (Lit.int .u64 x).wf = true) : 0 ≤ x ∧ x < 18446744073709551616 := by
  simp [Lit.wf, IntKind.min, IntKind.max, IntKind.bits, IntKind.signed] at h; omega
theorem wf_i64 {x : Int} (h : (Lit.int .i64 x).wf = true) : -9223372036854775808 ≤ x ∧ x ≤ 9223372036854775807 := by
  simp [Lit.wf, IntKind.min, IntKind.max, IntKind.bits, IntKind.signed] at h; omega
/-- All are bytes. -/
def Bytes (l : List Int) : Prop := ∀ x ∈ l, 0 ≤ x ∧ x < 256
theorem bytes_wf {l : List Int} (h : ∀ x ∈ l, (Lit.int .u8 x).wf = true) : Bytes l := fun x hx => wf_u8 (h x hx)
theorem Bytes.nil : Bytes [] := fun _ h => by cases h
theorem Bytes.cons {x : Int} {l : List Int} (hx : 0 ≤ x ∧ x < 256) (h : Bytes l) : Bytes (x :: l) := by
  intro y hy
  rcases List.mem_cons.1 hy with rfl | hy
  · exact hx
  · exact h y hy
theorem Bytes.append {a b : List Int} (ha : Bytes a) (hb : Bytes b) : Bytes (a ++ b) := fun x hx => (List.mem_append.1 hx).elim (ha x) (hb x)
theorem Bytes.left {a b : List Int} (h : Bytes (a ++ b)) : Bytes a := fun x hx => h x (List.mem_append_left _ hx)
theorem Bytes.right {a b : List Int} (h : Bytes (a ++ b)) : Bytes b := fun x hx => h x (List.mem_append_right _ hx)
theorem Bytes.take {a : List Int} (n : Nat) (h : Bytes a) : Bytes (a.take n) := fun x hx => h x (List.mem_of_mem_take hx)
theorem Bytes.drop {a : List Int} (n : Nat) (h : Bytes a) : Bytes (a.drop n) := fun x hx => h x (List.mem_of_mem_drop hx)
theorem Bytes.reverse {a : List Int} (h : Bytes a) : Bytes a.reverse := fun x hx => h x (List.mem_reverse.1 hx)
theorem Bytes.at {a : List Int} (h : Bytes a) (i : Int) : 0 ≤ rd a i ∧ rd a i < 256 := by
  unfold rd
  rw [List.getD_eq_getElem?_getD]
  rcases Nat.lt_or_ge i.toNat a.length with hi | hi
  · rw [List.getElem?_eq_getElem hi]
    exact h _ (List.getElem_mem hi)
  · rw [List.getElem?_eq_none hi]
    exact ⟨by decide, by decide⟩
theorem Bytes.get {a : List Int} (h : Bytes a) (i : Nat) (hi : i < a.length) : 0 ≤ a[i] ∧ a[i] < 256 := h _ (List.getElem_mem hi)
theorem rd_get {a : List Int} (i : Nat) (hi : i < a.length) : rd a (i : Int) = a[i] := by
  unfold rd
  rw [Int.toNat_natCast, List.getD_eq_getElem?_getD, List.getElem?_eq_getElem hi]
  rfl

/-! ### wraps -/
theorem w64 {x : Int} (h0 : -9223372036854775808 ≤ x) (h1 : x ≤ 9223372036854775807) : wrap64 x = x := by unfold wrap64; omega
theorem wu64 (x : Int) : IntKind.u64.wrap x = x % 18446744073709551616 := by simp [IntKind.wrap, IntKind.bits, IntKind.signed]
theorem wu64s {x : Int} (h0 : 0 ≤ x) (h1 : x < 18446744073709551616) : IntKind.u64.wrap x = x := by rw [wu64]; omega
theorem wu32 (x : Int) : IntKind.u32.wrap x = x % 4294967296 := by simp [IntKind.wrap, IntKind.bits, IntKind.signed]
theorem wu32s {x : Int} (h0 : 0 ≤ x) (h1 : x < 4294967296) : IntKind.u32.wrap x = x := by rw [wu32]; omega

/-! ### bits -/
theorem bits_u64_and {a b : Nat} (ha : a < 18446744073709551616) (hb : b < 18446744073709551616) : Go.bits .and .u64 (a : Int) (b : Int) = ((a &&& b : Nat) : Int) :=
  (bits_nat .u64 64 (by decide) (fun n h0 h1 => wu64s h0 (by simpa using h1)) a b (by simpa using ha) (by simpa using hb)).1
theorem bits_u64_or {a b : Nat} (ha : a < 18446744073709551616) (hb : b < 18446744073709551616) : Go.bits .or .u64 (a : Int) (b : Int) = ((a ||| b : Nat) : Int) :=
  (bits_nat .u64 64 (by decide) (fun n h0 h1 => wu64s h0 (by simpa using h1)) a b (by simpa using ha) (by simpa using hb)).2
theorem bits_u32_and {a b : Nat} (ha : a < 4294967296) (hb : b < 4294967296) : Go.bits .and .u32 (a : Int) (b : Int) = ((a &&& b : Nat) : Int) :=
  (bits_nat .u32 32 (by decide) (fun n h0 h1 => wu32s h0 (by simpa using h1)) a b (by simpa using ha) (by simpa using hb)).1
theorem bits_u32_or {a b : Nat} (ha : a < 4294967296) (hb : b < 4294967296) : Go.bits .or .u32 (a : Int) (b : Int) = ((a ||| b : Nat) : Int) :=
  (bits_nat .u32 32 (by decide) (fun n h0 h1 => wu32s h0 (by simpa using h1)) a b (by simpa using ha) (by simpa using hb)).2
theorem u64_or_low {x y : Int} {i : Nat} (hx0 : 0 ≤ x) (hx : x % 2 ^ i = 0) (hx1 : x < 18446744073709551616) (hy0 : 0 ≤ y) (hy : y < 2 ^ i) (hy1 : y < 18446744073709551616) : Go.bits .or .u64 x y = x + y :=
  bits_join .u64 64 (by decide) (fun n h0 h1 => wu64s h0 (by simpa using h1)) i x y hx0 hx (by simpa using hx1) hy0 hy (by simpa using hy1)
theorem u32_low {x : Int} (h0 : 0 ≤ x) (h1 : x < 4294967296) : Go.bits .and .u32 x 1 = x % 2 := by
  have := bits_mask .u32 32 (by decide) (fun n h0 h1 => wu32s h0 (by simpa using h1)) 1 (by decide) x h0 (by simpa using h1)
  simpa using this

/-! ### strings of bytes -/
theorem strOf_list (l : List Int) : (strOfNums l).toList = l.map fun n => UInt8.ofNat n.toNat := by
  rw [ByteArray.toList_eq, strOfNums_data]
theorem strOf_length (l : List Int) : (strOfNums l).toList.length = l.length := by rw [strOf_list, List.length_map]
theorem byte_inj {x y : Int} (hx : 0 ≤ x ∧ x < 256) (hy : 0 ≤ y ∧ y < 256) (h : UInt8.ofNat x.toNat = UInt8.ofNat y.toNat) : x = y := by
  have := congrArg UInt8.toNat h
  simp only [UInt8.toNat_ofNat'] at this
  omega
theorem strOf_inj {a b : List Int} (ha : Bytes a) (hb : Bytes b) (h : (strOfNums a).toList = (strOfNums b).toList) : a = b := by
  rw [strOf_list, strOf_list] at h
  induction a generalizing b with
  | nil =>
    cases b with
    | nil => rfl
    | cons y b => simp at h
  | cons x a ih =>
    cases b with
    | nil => simp at h
    | cons y b =>
      simp only [List.map_cons, List.cons.injEq] at h
      obtain rfl := byte_inj (ha x (by simp)) (hb y (by simp)) h.1
      rw [ih (fun z hz => ha z (List.mem_cons_of_mem _ hz)) (fun z hz => hb z (List.mem_cons_of_mem _ hz)) h.2]
theorem strOf_iff {a b : List Int} (ha : Bytes a) (hb : Bytes b) : ((strOfNums a).toList = (strOfNums b).toList) ↔ a = b := ⟨strOf_inj ha hb, fun h => by rw [h]⟩
theorem strOf_beq {a b : List Int} (ha : Bytes a) (hb : Bytes b) : ((strOfNums a).toList == (strOfNums b).toList) = (a == b) := by
  rw [Bool.eq_iff_iff, beq_iff_eq, beq_iff_eq, strOf_iff ha hb]

/-! ### rounds -/
theorem Ev.at {α : Type} {g : Nat → Option α} {r : α} {K : Nat} (h : ∀ k, K ≤ k → g k = some r) : Ev g r := ⟨K, h⟩
theorem Ev.const {α : Type} {g : Option α} {r : α} (h : g = some r) : Ev (fun _ => g) r := ⟨0, fun _ _ => h⟩
theorem succ_of {k n : Nat} (h : n < k) : ∃ m, k = m + 1 ∧ n ≤ m := ⟨k - 1, by omega, by omega⟩
theorem Ev.eq {α : Type} {g : Nat → Option α} {a b : α} (h1 : Ev g a) (h2 : Ev g b) : a = b := by
  obtain ⟨K, h1⟩ := h1
  obtain ⟨K', h2⟩ := h2
  have a1 := h1 (max K K') (by omega)
  have a2 := h2 (max K K') (by omega)
  rw [a1] at a2
  exact Option.some.inj a2

/-! ### numbers as bytes -/
/-- A number's s bytes, the lowest first. -/
def leb (n : Int) : Nat → List Int
  | 0 => []
  | s + 1 => n % 256 :: leb (n / 256) s
theorem leb_length (n : Int) (s : Nat) : (leb n s).length = s := by
  induction s generalizing n with
  | zero => rfl
  | succ s ih => simp [leb, ih]
theorem leb_bytes (n : Int) (s : Nat) : Bytes (leb n s) := by
  induction s generalizing n with
  | zero => exact Bytes.nil
  | succ s ih => exact Bytes.cons (by omega) (ih _)
theorem leb_get (n : Int) (s i : Nat) (h : i < (leb n s).length) : (leb n s)[i] = n / 256 ^ i % 256 := by
  induction s generalizing n i with
  | zero => simp [leb] at h
  | succ s ih =>
    cases i with
    | zero => simp [leb]
    | succ i =>
      simp only [leb, List.getElem_cons_succ]
      rw [ih, Int.pow_succ, Int.mul_comm, Int.ediv_ediv_of_nonneg (by decide)]
theorem leb_snoc (n : Int) (s : Nat) : leb n (s + 1) = leb n s ++ [n / 256 ^ s % 256] := by
  apply List.ext_getElem
  · simp [leb_length]
  · intro i h1 h2
    rw [leb_get]
    rw [leb_length] at h1
    rcases Nat.lt_or_ge i s with hi | hi
    · rw [List.getElem_append_left (by rw [leb_length]; exact hi), leb_get]
    · obtain rfl : i = s := by omega
      rw [List.getElem_append_right (by rw [leb_length]; exact Nat.le_refl _)]
      simp [leb_length]
/-- The number whose bytes these are, the highest first. -/
def beval (l : List Int) : Int := l.foldl (fun a b => a * 256 + b) 0
theorem beval_snoc (l : List Int) (x : Int) : beval (l ++ [x]) = beval l * 256 + x := by simp [beval]
theorem beval_nil : beval [] = 0 := rfl
theorem beval_range (l : List Int) (h : Bytes l) : 0 ≤ beval l ∧ beval l < 256 ^ l.length := by
  suffices ∀ r : List Int, Bytes r.reverse → 0 ≤ beval r.reverse ∧ beval r.reverse < 256 ^ r.length by
    have := this l.reverse (by rwa [List.reverse_reverse])
    rwa [List.reverse_reverse, List.length_reverse] at this
  intro r
  induction r with
  | nil => intro _; exact ⟨by decide, by decide⟩
  | cons x r ih =>
    intro hb
    rw [List.reverse_cons] at hb ⊢
    have h1 := ih hb.left
    have h2 := hb.right x (by simp)
    rw [beval_snoc, List.length_cons, Int.pow_succ]
    exact ⟨by omega, by omega⟩
theorem leb_beval (l : List Int) (h : Bytes l) : leb (beval l) l.length = l.reverse := by
  suffices ∀ r : List Int, Bytes r.reverse → leb (beval r.reverse) r.length = r by
    have := this l.reverse (by rwa [List.reverse_reverse])
    rwa [List.reverse_reverse, List.length_reverse] at this
  intro r
  induction r with
  | nil => intro _; rfl
  | cons x r ih =>
    intro hb
    rw [List.reverse_cons] at hb ⊢
    have h2 := hb.right x (by simp)
    rw [beval_snoc, List.length_cons, leb]
    rw [show (beval r.reverse * 256 + x) % 256 = x by omega, show (beval r.reverse * 256 + x) / 256 = beval r.reverse by omega, ih hb.left]
theorem beval_leb (n : Int) (s : Nat) (h0 : 0 ≤ n) (h1 : n < 256 ^ s) : beval (leb n s).reverse = n := by
  induction s generalizing n with
  | zero => simp at h1; simp [leb, beval]; omega
  | succ s ih =>
    rw [leb, List.reverse_cons, beval_snoc, ih (n / 256) (by omega) (by rw [Int.pow_succ] at h1; omega)]
    omega
/-- A number's bytes, in either order. -/
def putb (n : Int) (s : Nat) (big : Bool) : List Int := if big then (leb n s).reverse else leb n s
theorem putb_length (n : Int) (s : Nat) (big : Bool) : (putb n s big).length = s := by
  unfold putb; split <;> simp [leb_length]
theorem putb_bytes (n : Int) (s : Nat) (big : Bool) : Bytes (putb n s big) := by
  unfold putb; split
  · exact (leb_bytes n s).reverse
  · exact leb_bytes n s
/-- Bytes' number, in either order. -/
def getv (l : List Int) (big : Bool) : Int := beval (if big then l else l.reverse)
theorem getv_putb (n : Int) (s : Nat) (big : Bool) (h0 : 0 ≤ n) (h1 : n < 256 ^ s) : getv (putb n s big) big = n := by
  unfold getv putb
  cases big <;> simp [beval_leb n s h0 h1]
theorem putb_getv (l : List Int) (big : Bool) (h : Bytes l) : putb (getv l big) l.length big = l := by
  unfold getv putb
  cases big
  · have := leb_beval l.reverse h.reverse
    simpa using this
  · have := leb_beval l h
    simp [this]
theorem getv_range (l : List Int) (big : Bool) (h : Bytes l) : 0 ≤ getv l big ∧ getv l big < 256 ^ l.length := by
  unfold getv
  cases big
  · have := beval_range l.reverse h.reverse
    simpa using this
  · simpa using beval_range l h
theorem pow256_le {i j : Nat} (h : i ≤ j) : (256 : Int) ^ i ≤ 256 ^ j := by
  have h1 : ∀ k : Nat, (256 : Int) ^ k = ((256 ^ k : Nat) : Int) := fun k => (Int.natCast_pow 256 k).symm
  rw [h1, h1]
  exact Int.ofNat_le.2 (Nat.pow_le_pow_right (by decide) h)
theorem pow256_8 : (256 : Int) ^ 8 = 18446744073709551616 := by decide
theorem pow256_2 (i : Nat) : (256 : Int) ^ i = 2 ^ (8 * i) := by
  rw [show (256 : Int) = 2 ^ 8 from rfl, ← Int.pow_mul]
end Go.Proofs.Ytgnonglkibhnhaa.Q

/- Has and Apart of accm, told by bits. -/
namespace Go.Proofs.Ytgnonglkibhnhaa.Q
open Go.RowKit Go.Proofs.Ytgnonglkibhnhaa.Print Go.Proofs.YtgnonglkibhnhaaW.PrintWords Go.Proofs.YtgnonglkibhnhaaW.PrintLast Go.Proofs.YtgnonglkibhnhaaW.PrintMore
set_option linter.unusedVariables false
set_option linter.unusedSimpArgs false

/-- Is the character in the map? -/
def hasv (m c : Int) : Bool := decide (c < 32) && m.toNat.testBit c.toNat
theorem toNat_div (m : Int) (h : 0 ≤ m) (j : Nat) : (m / 2 ^ j) = ((m.toNat / 2 ^ j : Nat) : Int) := by
  obtain ⟨n, rfl⟩ := Int.eq_ofNat_of_zero_le h
  simp
theorem bit_of (m : Int) (h : 0 ≤ m) (j : Nat) : ((m / 2 ^ j) % 2 == 1) = m.toNat.testBit j := by
  rw [Nat.testBit_eq_decide_div_mod_eq, toNat_div m h]
  rw [Bool.eq_iff_iff, beq_iff_eq, decide_eq_true_iff]
  omega
theorem has_spec (m c : Int) (h0 : 0 ≤ m) (h1 : m < 4294967296) (hc : 0 ≤ c) : accm_Has.f m c = some (hasv m c) := by
  unfold accm_Has.f hasv
  by_cases a : c < 32
  · rw [if_pos a, if_pos hc]
    have hs : shr .u32 m c = m / 2 ^ c.toNat := by
      unfold shr
      rw [Nat.min_eq_left (by simp [IntKind.bits]; omega)]
    have hq0 : 0 ≤ m / 2 ^ c.toNat := Int.ediv_nonneg h0 (Int.le_of_lt (Int.pow_pos (by decide)))
    have hq1 : m / 2 ^ c.toNat ≤ m := Int.ediv_le_self _ h0
    rw [hs, u32_low hq0 (by omega), bit_of m h0]
    simp [a]
  · rw [if_neg a]
    simp [a]
/-- Is the byte told apart? -/
def apartv (m c : Int) : Bool := decide (c = 125) || (decide (c = 126) || hasv m c)
theorem apart_spec (m c : Int) (h0 : 0 ≤ m) (h1 : m < 4294967296) (hc : 0 ≤ c) : accm_Apart.f m c = some (apartv m c) := by
  unfold accm_Apart.f apartv
  rw [has_spec m c h0 h1 hc]
  by_cases a : c = 125
  · simp [a]
  · by_cases b : c = 126
    · simp [b]
    · simp [a, b]

end Go.Proofs.Ytgnonglkibhnhaa.Q

/- The functions of stuff, told by lists. -/
namespace Go.Proofs.Ytgnonglkibhnhaa.Q
open Go.RowKit Go.Proofs.Ytgnonglkibhnhaa.Print Go.Proofs.YtgnonglkibhnhaaW.PrintWords Go.Proofs.YtgnonglkibhnhaaW.PrintLast Go.Proofs.YtgnonglkibhnhaaW.PrintMore
set_option linter.unusedVariables false
set_option linter.unusedSimpArgs false

/-- A byte, turned. -/
def turnv (c : Int) : Int := Go.bits .xor .u8 c 32
theorem turnv_nat (n : Nat) (h : n < 256) : turnv (n : Int) = ((n ^^^ 32 : Nat) : Int) := by
  have h1 : n ^^^ 32 < 2 ^ 8 := Nat.xor_lt_two_pow (by simpa using h) (by decide)
  have e2 : (BitVec.ofNat 8 n ^^^ 32#8).toNat = n ^^^ 32 := by
    rw [BitVec.toNat_xor, BitVec.toNat_ofNat, Nat.mod_eq_of_lt (show n < 2 ^ 8 by simpa using h)]
    rfl
  have e3 := wraps_u8 (((n ^^^ 32 : Nat) : Int)) (by omega) (by exact_mod_cast h1)
  rw [← e2] at e3
  rw [← e2]
  exact e3
theorem turnv_range {c : Int} (h : 0 ≤ c ∧ c < 256) : 0 ≤ turnv c ∧ turnv c < 256 := by
  obtain ⟨n, rfl⟩ := Int.eq_ofNat_of_zero_le h.1
  have h1 : n ^^^ 32 < 2 ^ 8 := Nat.xor_lt_two_pow (by omega) (by decide)
  rw [turnv_nat n (by omega)]
  omega
theorem turnv_turnv {c : Int} (h : 0 ≤ c ∧ c < 256) : turnv (turnv c) = c := by
  obtain ⟨n, rfl⟩ := Int.eq_ofNat_of_zero_le h.1
  have h1 : n ^^^ 32 < 2 ^ 8 := Nat.xor_lt_two_pow (by omega) (by decide)
  rw [turnv_nat n (by omega), turnv_nat _ (by omega), Nat.xor_assoc, Nat.xor_self, Nat.xor_zero]
/-- What a byte is, stuffed. -/
def piecev (m c : Int) : List Int := if apartv m c = true then [125, turnv c] else [c]
/-- Bytes, stuffed. -/
def stuffv (l : List Int) (m : Int) : List Int := (l.map (piecev m)).flatten
theorem piece_eq (m c : Int) (h0 : 0 ≤ m) (h1 : m < 4294967296) (hc : 0 ≤ c) : stuff_Stuff.piece m c = piecev m c := by
  unfold stuff_Stuff.piece piecev turnv
  rw [apart_spec m c h0 h1 hc]
  rfl
theorem piecev_len (m c : Int) : 1 ≤ (piecev m c).length ∧ (piecev m c).length ≤ 2 := by
  unfold piecev
  split <;> simp
theorem stuffv_nil (m : Int) : stuffv [] m = [] := rfl
theorem stuffv_cons (c : Int) (l : List Int) (m : Int) : stuffv (c :: l) m = piecev m c ++ stuffv l m := by simp [stuffv]
theorem stuffv_append (a b : List Int) (m : Int) : stuffv (a ++ b) m = stuffv a m ++ stuffv b m := by simp [stuffv]
theorem stuffv_len (l : List Int) (m : Int) : l.length ≤ (stuffv l m).length ∧ (stuffv l m).length ≤ 2 * l.length := by
  induction l with
  | nil => simp [stuffv]
  | cons c l ih =>
    have := piecev_len m c
    rw [stuffv_cons, List.length_append, List.length_cons]
    omega
theorem stuffv_bytes {l : List Int} (h : Bytes l) (m : Int) : Bytes (stuffv l m) := by
  induction l with
  | nil => exact Bytes.nil
  | cons c l ih =>
    rw [stuffv_cons]
    refine Bytes.append ?_ (ih (fun x hx => h x (by simp [hx])))
    have hc := h c (by simp)
    unfold piecev
    split
    · exact Bytes.cons (by omega) (Bytes.cons (turnv_range hc) Bytes.nil)
    · exact Bytes.cons hc Bytes.nil
theorem stuff_spec (l : List Int) (m : Int) (hb : Bytes l) (h0 : 0 ≤ m) (h1 : m < 4294967296) (hl : l.length < 70368744177664) : stuff_Stuff.f l m = some (stuffv l m) := by
  have hm : l.map (stuff_Stuff.piece m) = l.map (piecev m) := List.map_congr_left (fun c hc => piece_eq m c h0 h1 (hb c hc).1)
  have := (stuffv_len l m).2
  unfold stuff_Stuff.f
  rw [hm]
  rw [if_pos]
  · rfl
  · refine ⟨List.all_eq_true.2 (fun c hc => ?_), by unfold stuffv at this; omega⟩
    rw [apart_spec m c h0 h1 (hb c hc).1]
    rfl
/-- Bytes, unstuffed: whether one stands behind 0x7d; what came so far. -/
def unst (m : Int) : List Int → Bool → List Int → List Int × Bool
  | [], b, acc => if b then ([], false) else (acc, true)
  | c :: t, b, acc => if c = 126 then ([], false) else if hasv m c = true then unst m t b acc else if b then unst m t false (acc ++ [turnv c]) else if c = 125 then unst m t true acc else unst m t b (acc ++ [c])
def unstuffv (l : List Int) (m : Int) : List Int × Bool := unst m l false []
theorem unst_loop (m : Int) (h0 : 0 ≤ m) (h1 : m < 4294967296) (l : List Int) (hb : Bytes l) (hl : l.length < 70368744177664) (d : Nat) : ∀ (i : Nat) (b : Bool) (acc : List Int), l.length - i = d → i ≤ l.length → acc.length ≤ i →
    Ev (fun k => stuff_Unstuff.l0 k m acc b l (l.length : Int) (i : Int)) (unst m (l.drop i) b acc) := by
  induction d with
  | zero =>
    intro i b acc hd hi ha
    refine Ev.step (f := fun _ => some (unst m (l.drop i) b acc)) (fun k => ?_) (Ev.now _)
    rw [stuff_Unstuff.l0, if_neg (by omega), List.drop_of_length_le (by omega)]
    unfold unst
    cases b <;> simp
  | succ d ih =>
    intro i b acc hd hi ha
    have hil : i < l.length := by omega
    have hc := hb _ (List.getElem_mem hil)
    rw [List.drop_eq_getElem_cons hil]
    unfold unst
    by_cases e1 : l[i] = 126
    · refine Ev.step (f := fun _ => some (([] : List Int), false)) (fun k => ?_) ?_
      · rw [stuff_Unstuff.l0, if_pos (by omega), if_pos (by omega), if_pos (by omega), rd_get i hil, if_pos e1]
      · rw [if_pos e1]
        exact Ev.now _
    · rw [if_neg e1]
      by_cases e2 : hasv m l[i] = true
      · rw [if_pos e2]
        refine Ev.step (fun k => ?_) (ih (i + 1) b acc (by omega) (by omega) (by omega))
        rw [stuff_Unstuff.l0, if_pos (by omega), if_pos (by omega), if_pos (by omega), rd_get i hil, if_neg e1, has_spec m _ h0 h1 hc.1]
        simp only [Option.bind_some, e2, if_true]
        rw [w64 (by omega) (by omega)]
        rfl
      · rw [if_neg e2]
        by_cases e3 : b = true
        · rw [if_pos e3]
          refine Ev.step (fun k => ?_) (ih (i + 1) false (acc ++ [turnv l[i]]) (by omega) (by omega) (by simp; omega))
          rw [stuff_Unstuff.l0, if_pos (by omega), if_pos (by omega), if_pos (by omega), rd_get i hil, if_neg e1, has_spec m _ h0 h1 hc.1]
          simp only [Option.bind_some, e2, e3, Bool.false_eq_true, if_true, if_false]
          rw [if_pos (by omega), w64 (by omega) (by omega)]
          rfl
        · rw [if_neg e3]
          by_cases e4 : l[i] = 125
          · rw [if_pos e4]
            refine Ev.step (fun k => ?_) (ih (i + 1) true acc (by omega) (by omega) (by omega))
            rw [stuff_Unstuff.l0, if_pos (by omega), if_pos (by omega), if_pos (by omega), rd_get i hil, if_neg e1, has_spec m _ h0 h1 hc.1]
            simp only [Option.bind_some, e2, e3, e4, Bool.false_eq_true, if_true, if_false]
            rw [w64 (by omega) (by omega)]
            rfl
          · rw [if_neg e4]
            refine Ev.step (fun k => ?_) (ih (i + 1) b (acc ++ [l[i]]) (by omega) (by omega) (by simp; omega))
            rw [stuff_Unstuff.l0, if_pos (by omega), if_pos (by omega), if_pos (by omega), rd_get i hil, if_neg e1, has_spec m _ h0 h1 hc.1]
            simp only [Option.bind_some, e2, e3, e4, Bool.false_eq_true, if_true, if_false]
            rw [if_pos (by omega), w64 (by omega) (by omega)]
            rfl
theorem unstuff_spec (l : List Int) (m : Int) (hb : Bytes l) (h0 : 0 ≤ m) (h1 : m < 4294967296) (hl : l.length < 70368744177664) : Ev (fun k => stuff_Unstuff.f k l m) (unstuffv l m) := by
  have := unst_loop m h0 h1 l hb hl l.length 0 false [] (by omega) (by omega) (by simp)
  exact this
end Go.Proofs.Ytgnonglkibhnhaa.Q

/- Has and Apart of accm's reference, told by bits. -/
namespace Go.Proofs.Ytgnonglkibhnhaa.Q
open Go.RowKit Go.Proofs.Ytgnonglkibhnhaa.Print Go.Proofs.YtgnonglkibhnhaaW.PrintWords Go.Proofs.YtgnonglkibhnhaaW.PrintLast Go.Proofs.YtgnonglkibhnhaaW.PrintMore
set_option linter.unusedVariables false
set_option linter.unusedSimpArgs false

theorem rhas_loop (m : Int) (h0 : 0 ≤ m) (h1 : m < 4294967296) (c : Nat) (hc : c < 32) (d : Nat) : ∀ i : Nat, c - i = d → i ≤ c →
    Ev (fun k => umpireref05_Has.l0 k (m / 2 ^ i) (c : Int) (i : Int)) (m.toNat.testBit c) := by
  induction d with
  | zero =>
    intro i hd hi
    obtain rfl : i = c := by omega
    have hq0 : 0 ≤ m / 2 ^ i := Int.ediv_nonneg h0 (Int.le_of_lt (Int.pow_pos (by decide)))
    refine Ev.step (f := fun _ => some (m.toNat.testBit i)) (fun k => ?_) (Ev.now _)
    rw [umpireref05_Has.l0, if_neg (by omega), Int.tmod_eq_emod_of_nonneg hq0, bit_of m h0]
  | succ d ih =>
    intro i hd hi
    have hq0 : 0 ≤ m / 2 ^ i := Int.ediv_nonneg h0 (Int.le_of_lt (Int.pow_pos (by decide)))
    have hq1 : m / 2 ^ i ≤ m := Int.ediv_le_self _ h0
    refine Ev.step (f := fun k => umpireref05_Has.l0 k (m / 2 ^ (i + 1)) (c : Int) ((i + 1 : Nat) : Int)) (fun k => ?_) (ih (i + 1) (by omega) (by omega))
    rw [umpireref05_Has.l0, if_pos (by omega), Int.tdiv_eq_ediv_of_nonneg hq0, Int.emod_eq_of_lt (by omega) (by omega), Int.ediv_ediv_of_nonneg (Int.le_of_lt (Int.pow_pos (by decide))), ← Int.pow_succ, show ((i : Int) + 1) % 256 = ((i + 1 : Nat) : Int) by omega]
theorem rhas_spec (m c : Int) (h0 : 0 ≤ m) (h1 : m < 4294967296) (hc : 0 ≤ c) : Ev (fun k => umpireref05_Has.f k m c) (hasv m c) := by
  unfold umpireref05_Has.f hasv
  by_cases a : c > 31
  · simp only [a, if_true]
    rw [show decide (c < 32) = false by simp; omega]
    exact Ev.now _
  · simp only [a, if_false]
    rw [show decide (c < 32) = true by simp; omega]
    have := rhas_loop m h0 h1 c.toNat (by omega) c.toNat 0 (by omega) (by omega)
    rw [show ((c.toNat : Nat) : Int) = c by omega] at this
    simpa using this
theorem rapart_spec (m c : Int) (h0 : 0 ≤ m) (h1 : m < 4294967296) (hc : 0 ≤ c) : Ev (fun k => umpireref05_Apart.f k m c) (apartv m c) := by
  unfold umpireref05_Apart.f apartv
  by_cases a : c = 125
  · simp only [a, if_true]
    exact Ev.now _
  · by_cases b : c = 126
    · simp only [a, b, if_true, if_false]
      exact Ev.now _
    · simp only [a, b, if_false]
      have := Ev.bind (rhas_spec m c h0 h1 hc) (Ev.now (hasv m c))
      simpa using this
end Go.Proofs.Ytgnonglkibhnhaa.Q

/- The functions of stuff's reference, told by lists. -/
namespace Go.Proofs.Ytgnonglkibhnhaa.Q
open Go.RowKit Go.Proofs.Ytgnonglkibhnhaa.Print Go.Proofs.YtgnonglkibhnhaaW.PrintWords Go.Proofs.YtgnonglkibhnhaaW.PrintLast Go.Proofs.YtgnonglkibhnhaaW.PrintMore
set_option linter.unusedVariables false
set_option linter.unusedSimpArgs false

theorem rstuff_loop (m : Int) (h0 : 0 ≤ m) (h1 : m < 4294967296) (l : List Int) (hb : Bytes l) (hl : l.length < 35184372088832) (d : Nat) : ∀ (i : Nat), l.length - i = d → i ≤ l.length →
    Ev (fun k => umpireref06_Stuff.l0 k l m (stuffv (l.take i) m) (i : Int)) (stuffv l m) := by
  induction d with
  | zero =>
    intro i hd hi
    refine Ev.step (f := fun _ => some (stuffv l m)) (fun k => ?_) (Ev.now _)
    rw [umpireref06_Stuff.l0, if_neg (by omega), List.take_of_length_le (by omega)]
  | succ d ih =>
    intro i hd hi
    have hil : i < l.length := by omega
    have hc := hb _ (List.getElem_mem hil)
    have hn : stuffv (l.take (i + 1)) m = stuffv (l.take i) m ++ piecev m l[i] := by
      rw [List.take_succ_eq_append_getElem hil, stuffv_append, stuffv_cons, stuffv_nil, List.append_nil]
    have hlen := (stuffv_len (l.take i) m).2
    rw [List.length_take] at hlen
    refine Ev.step (fun k => by rw [umpireref06_Stuff.l0, if_pos (by omega), if_pos (by omega), rd_get i hil]) (Ev.bind (rapart_spec m l[i] h0 h1 hc.1) ?_)
    have next := ih (i + 1) (by omega) (by omega)
    rw [hn] at next
    have hw : ∀ x : Int, x = (i : Int) → wrap64 (x + 1) = ((i + 1 : Nat) : Int) := by
      intro x hx
      rw [w64 (by omega) (by omega)]
      omega
    by_cases e : apartv m l[i] = true
    · have hp : piecev m l[i] = [125, turnv l[i]] := by
        unfold piecev
        rw [if_pos e]
      rw [hp] at next
      simp only [e, if_true, Option.bind_some, List.length_cons, List.length_nil, show (stuffv (l.take i) m).length + (0 + 1 + 1) < 140737488355328 by omega, hw _ rfl]
      exact next
    · have hp : piecev m l[i] = [l[i]] := by
        unfold piecev
        rw [if_neg e]
      rw [hp] at next
      simp only [e, Bool.false_eq_true, if_false, show (stuffv (l.take i) m).length < 140737488355328 by omega, if_true, hw _ rfl]
      exact next
theorem rstuff_spec (l : List Int) (m : Int) (hb : Bytes l) (h0 : 0 ≤ m) (h1 : m < 4294967296) (hl : l.length < 35184372088832) : Ev (fun k => umpireref06_Stuff.f k l m) (stuffv l m) := by
  have := rstuff_loop m h0 h1 l hb hl l.length 0 (by omega) (by omega)
  rw [List.take_zero, stuffv_nil] at this
  exact this
theorem left_loop (m : Int) (h0 : 0 ≤ m) (h1 : m < 4294967296) (l : List Int) (hb : Bytes l) (hl : l.length < 70368744177664) (d : Nat) : ∀ (i : Nat), l.length - i = d → i ≤ l.length →
    Ev (fun k => umpireref06_Left.l0 k l m ((l.take i).filter fun c => !hasv m c) (i : Int)) (l.filter fun c => !hasv m c) := by
  induction d with
  | zero =>
    intro i hd hi
    refine Ev.step (f := fun _ => some (l.filter fun c => !hasv m c)) (fun k => ?_) (Ev.now _)
    rw [umpireref06_Left.l0, if_neg (by omega), List.take_of_length_le (by omega)]
  | succ d ih =>
    intro i hd hi
    have hil : i < l.length := by omega
    have hc := hb _ (List.getElem_mem hil)
    have hlen := List.length_filter_le (fun c => !hasv m c) (l.take i)
    rw [List.length_take] at hlen
    refine Ev.step (fun k => by rw [umpireref06_Left.l0, if_pos (by omega), if_pos (by omega), rd_get i hil]) (Ev.bind (rhas_spec m l[i] h0 h1 hc.1) ?_)
    have next := ih (i + 1) (by omega) (by omega)
    rw [List.take_succ_eq_append_getElem hil, List.filter_append] at next
    have hw : ∀ x : Int, x = (i : Int) → wrap64 (x + 1) = ((i + 1 : Nat) : Int) := by
      intro x hx
      rw [w64 (by omega) (by omega)]
      omega
    by_cases e : hasv m l[i] = true
    · simp only [e, if_true, List.filter_cons, Bool.not_true, Bool.false_eq_true, if_false, List.filter_nil, List.append_nil, hw _ rfl] at next ⊢
      exact next
    · have e' : hasv m l[i] = false := by simpa using e
      simp only [e', Bool.false_eq_true, if_false, List.filter_cons, Bool.not_false, if_true, List.filter_nil, hw _ rfl, show ((l.take i).filter fun c => !hasv m c).length < 140737488355328 by omega] at next ⊢
      exact next
theorem left_spec (l : List Int) (m : Int) (hb : Bytes l) (h0 : 0 ≤ m) (h1 : m < 4294967296) (hl : l.length < 70368744177664) : Ev (fun k => umpireref06_Left.f k l m) (l.filter fun c => !hasv m c) := by
  have := left_loop m h0 h1 l hb hl l.length 0 (by omega) (by omega)
  exact this
/-- What the reference makes of bytes of which the map's are left out. -/
def runst : List Int → List Int → List Int × Bool
  | [], acc => (acc, true)
  | c :: t, acc => if c = 126 then ([], false) else if c = 125 then (match t with | [] => ([], false) | d :: t' => if d = 126 then ([], false) else runst t' (acc ++ [turnv d])) else runst t (acc ++ [c])
theorem runst_cons (c : Int) (t acc : List Int) : runst (c :: t) acc = if c = 126 then ([], false) else if c = 125 then (match t with | [] => ([], false) | d :: t' => if d = 126 then ([], false) else runst t' (acc ++ [turnv d])) else runst t (acc ++ [c]) := by
  conv => lhs; rw [runst.eq_def]
theorem runst_loop (l : List Int) (hl : l.length < 70368744177664) (n : Nat) : ∀ (i : Nat) (acc : List Int), l.length - i ≤ n → i ≤ l.length → acc.length ≤ i →
    Ev (fun k => umpireref06_Unstuff.l0 k l acc (i : Int)) (runst (l.drop i) acc) := by
  induction n with
  | zero =>
    intro i acc hd hi ha
    refine Ev.step (f := fun _ => some (runst (l.drop i) acc)) (fun k => ?_) (Ev.now _)
    rw [umpireref06_Unstuff.l0, if_neg (by omega), List.drop_of_length_le (by omega)]
    rw [runst]
  | succ n ih =>
    intro i acc hd hi ha
    rcases Nat.lt_or_ge i l.length with hil | hil
    · have hd1 : l.drop i = l[i] :: l.drop (i + 1) := List.drop_eq_getElem_cons hil
      have no : ∀ b : Bool, b = true → Ev (fun k => umpireref06_Unstuff.j1 k l acc (i : Int) b) (([] : List Int), false) := by
        intro b hb
        refine Ev.step (f := fun _ => some (([] : List Int), false)) (fun k => ?_) (Ev.now _)
        rw [umpireref06_Unstuff.j1, if_pos hb]
      rw [hd1]
      by_cases e1 : l[i] = 126
      · rw [runst_cons, if_pos e1]
        refine Ev.step (fun k => ?_) (no true rfl)
        rw [umpireref06_Unstuff.l0, if_pos (by omega), if_pos (by omega), rd_get i hil, if_pos e1]
      · by_cases e2 : l[i] = 125
        · rcases Nat.lt_or_ge (i + 1) l.length with hi2 | hi2
          · have hd2 : l.drop (i + 1) = l[i + 1] :: l.drop (i + 2) := List.drop_eq_getElem_cons hi2
            rw [runst_cons, if_neg e1, if_pos e2, hd2]
            dsimp only
            by_cases e3 : l[i + 1] = 126
            · rw [if_pos e3]
              refine Ev.step (fun k => ?_) (no (l[i + 1] == 126) (by simpa using e3))
              rw [umpireref06_Unstuff.l0, if_pos (by omega), if_pos (by omega), rd_get i hil, if_neg e1, if_pos e2, w64 (by omega) (by omega), if_neg (by omega), if_pos (by omega), if_pos (by omega), show ((i : Int) + 1) = ((i + 1 : Nat) : Int) by omega, rd_get (i + 1) hi2]
            · rw [if_neg e3]
              refine Ev.step (f := fun k => umpireref06_Unstuff.j1 k l acc (i : Int) (l[i + 1] == 126)) (fun k => ?_) (Ev.step (fun k => ?_) (ih (i + 2) (acc ++ [turnv l[i + 1]]) (by omega) (by omega) (by simp; omega)))
              · rw [umpireref06_Unstuff.l0, if_pos (by omega), if_pos (by omega), rd_get i hil, if_neg e1, if_pos e2, w64 (by omega) (by omega), if_neg (by omega), if_pos (by omega), if_pos (by omega), show ((i : Int) + 1) = ((i + 1 : Nat) : Int) by omega, rd_get (i + 1) hi2]
              · rw [umpireref06_Unstuff.j1, if_neg (by simpa using e3), if_pos (by omega), if_pos (by omega), rd_get i hil, if_pos e2, w64 (x := (i : Int) + 1) (by omega) (by omega), if_pos (by omega), if_pos (by omega), if_pos (by omega), show ((i : Int) + 1) = ((i + 1 : Nat) : Int) by omega, rd_get (i + 1) hi2, w64 (by omega) (by omega)]
                rfl
          · rw [List.drop_of_length_le (by omega : l.length ≤ i + 1), runst_cons, if_neg e1, if_pos e2]
            refine Ev.step (fun k => ?_) (no true rfl)
            rw [umpireref06_Unstuff.l0, if_pos (by omega), if_pos (by omega), rd_get i hil, if_neg e1, if_pos e2, w64 (by omega) (by omega), if_pos (by omega)]
        · rw [runst_cons, if_neg e1, if_neg e2]
          refine Ev.step (f := fun k => umpireref06_Unstuff.j1 k l acc (i : Int) false) (fun k => ?_) (Ev.step (fun k => ?_) (ih (i + 1) (acc ++ [l[i]]) (by omega) (by omega) (by simp; omega)))
          · rw [umpireref06_Unstuff.l0, if_pos (by omega), if_pos (by omega), rd_get i hil, if_neg e1, if_neg e2]
          · rw [umpireref06_Unstuff.j1, if_neg (by decide), if_pos (by omega), if_pos (by omega), rd_get i hil, if_neg e2, if_pos (by omega), w64 (by omega) (by omega)]
            rfl
    · refine Ev.step (f := fun _ => some (runst (l.drop i) acc)) (fun k => ?_) (Ev.now _)
      rw [umpireref06_Unstuff.l0, if_neg (by omega), List.drop_of_length_le (by omega)]
      rw [runst]
theorem hasv_high (m c : Int) (h : 32 ≤ c) : hasv m c = false := by
  unfold hasv
  rw [show decide (c < 32) = false by apply decide_eq_false; omega]
  rfl
theorem unst_runst (m : Int) (l : List Int) : (∀ acc, unst m l false acc = runst (l.filter fun c => !hasv m c) acc) ∧
    (∀ acc, unst m l true acc = match (l.filter fun c => !hasv m c) with | [] => ([], false) | d :: t => if d = 126 then ([], false) else runst t (acc ++ [turnv d])) := by
  induction l with
  | nil => exact ⟨fun acc => by simp [unst, runst], fun acc => by simp [unst]⟩
  | cons c t ih =>
    constructor
    · intro acc
      unfold unst
      by_cases e1 : c = 126
      · have := hasv_high m c (by omega)
        rw [if_pos e1, List.filter_cons, this]
        simp only [Bool.not_false, if_true]
        rw [runst_cons, if_pos e1]
      · rw [if_neg e1]
        by_cases e2 : hasv m c = true
        · rw [if_pos e2, List.filter_cons, e2]
          simp only [Bool.not_true, Bool.false_eq_true, if_false]
          exact ih.1 acc
        · have e2' : hasv m c = false := by simpa using e2
          rw [if_neg e2, List.filter_cons, e2']
          simp only [Bool.not_false, if_true, Bool.false_eq_true, if_false]
          by_cases e3 : c = 125
          · rw [if_pos e3, runst_cons, if_neg e1, if_pos e3, ih.2 acc]
          · rw [if_neg e3, runst_cons, if_neg e1, if_neg e3, ih.1]
    · intro acc
      unfold unst
      by_cases e1 : c = 126
      · have := hasv_high m c (by omega)
        rw [if_pos e1, List.filter_cons, this]
        simp only [Bool.not_false, if_true, e1]
      · rw [if_neg e1]
        by_cases e2 : hasv m c = true
        · rw [if_pos e2, List.filter_cons, e2]
          simp only [Bool.not_true, Bool.false_eq_true, if_false]
          exact ih.2 acc
        · have e2' : hasv m c = false := by simpa using e2
          rw [if_neg e2, List.filter_cons, e2']
          simp only [Bool.not_false, if_true, e1, if_false]
          exact ih.1 _
theorem runstuff_spec (l : List Int) (m : Int) (hb : Bytes l) (h0 : 0 ≤ m) (h1 : m < 4294967296) (hl : l.length < 70368744177664) : Ev (fun k => umpireref06_Unstuff.f k l m) (unstuffv l m) := by
  unfold umpireref06_Unstuff.f
  refine Ev.bind (left_spec l m hb h0 h1 hl) ?_
  have hlen := List.length_filter_le (fun c => !hasv m c) l
  have := runst_loop (l.filter fun c => !hasv m c) (by omega) _ 0 [] (Nat.le_refl _) (by omega) (by simp)
  rw [List.drop_zero] at this
  unfold unstuffv
  rw [(unst_runst m l).1 []]
  exact this
end Go.Proofs.Ytgnonglkibhnhaa.Q

/- What was stuffed comes back. -/
namespace Go.Proofs.Ytgnonglkibhnhaa.Q
open Go.RowKit Go.Proofs.Ytgnonglkibhnhaa.Print Go.Proofs.YtgnonglkibhnhaaW.PrintWords Go.Proofs.YtgnonglkibhnhaaW.PrintLast Go.Proofs.YtgnonglkibhnhaaW.PrintMore
set_option linter.unusedVariables false
set_option linter.unusedSimpArgs false

theorem turn_high {c : Int} (hc : 0 ≤ c ∧ c < 32) : 32 ≤ turnv c ∧ turnv c < 64 := by
  obtain ⟨n, rfl⟩ := Int.eq_ofNat_of_zero_le hc.1
  have h : ∀ n : Nat, n < 32 → 32 ≤ n ^^^ 32 ∧ n ^^^ 32 < 64 := by decide
  have := h n (by omega)
  rw [turnv_nat n (by omega)]
  omega
theorem turn_out (m c : Int) (hc : 0 ≤ c ∧ c < 256) (a : apartv m c = true) : 32 ≤ turnv c ∧ turnv c ≠ 126 := by
  unfold apartv at a
  simp only [Bool.or_eq_true, decide_eq_true_eq] at a
  rcases a with a | a | a
  · subst a
    have := turnv_nat 125 (by decide)
    rw [show ((125 : Int)) = ((125 : Nat) : Int) from rfl, this]
    decide
  · subst a
    have := turnv_nat 126 (by decide)
    rw [show ((126 : Int)) = ((126 : Nat) : Int) from rfl, this]
    decide
  · unfold hasv at a
    simp only [Bool.and_eq_true, decide_eq_true_eq] at a
    have := turn_high ⟨hc.1, a.1⟩
    omega
theorem piece_out (m c : Int) (hc : 0 ≤ c ∧ c < 256) : ∀ x ∈ piecev m c, x ≠ 126 ∧ hasv m x = false := by
  intro x hx
  unfold piecev at hx
  by_cases a : apartv m c = true
  · rw [if_pos a] at hx
    have ht := turn_out m c hc a
    rcases List.mem_cons.1 hx with rfl | hx
    · exact ⟨by decide, hasv_high m 125 (by decide)⟩
    · rcases List.mem_cons.1 hx with rfl | hx
      · exact ⟨ht.2, hasv_high m _ ht.1⟩
      · cases hx
  · rw [if_neg a] at hx
    rcases List.mem_cons.1 hx with rfl | hx
    · unfold apartv at a
      simp only [Bool.or_eq_true, decide_eq_true_eq, not_or] at a
      exact ⟨a.2.1, by simpa using a.2.2⟩
    · cases hx
theorem stuff_out (m : Int) (l : List Int) (hb : Bytes l) : ∀ x ∈ stuffv l m, x ≠ 126 ∧ hasv m x = false := by
  induction l with
  | nil => intro x hx; cases hx
  | cons c l ih =>
    intro x hx
    rw [stuffv_cons] at hx
    rcases List.mem_append.1 hx with hx | hx
    · exact piece_out m c (hb c (by simp)) x hx
    · exact ih (fun y hy => hb y (by simp [hy])) x hx
theorem runst_stuff (m : Int) (l : List Int) (hb : Bytes l) : ∀ acc, runst (stuffv l m) acc = (acc ++ l, true) := by
  induction l with
  | nil => intro acc; rw [stuffv_nil, runst, List.append_nil]
  | cons c l ih =>
    intro acc
    have hc := hb c (by simp)
    have ih := ih (fun y hy => hb y (by simp [hy]))
    rw [stuffv_cons]
    unfold piecev
    by_cases a : apartv m c = true
    · have ht := turn_out m c hc a
      rw [if_pos a, List.cons_append, List.cons_append, List.nil_append, runst_cons, if_neg (by decide), if_pos rfl]
      dsimp only
      rw [if_neg ht.2, turnv_turnv hc, ih, List.append_assoc]
      rfl
    · have a' := a
      unfold apartv at a'
      simp only [Bool.or_eq_true, decide_eq_true_eq, not_or] at a'
      rw [if_neg a, List.cons_append, List.nil_append, runst_cons, if_neg a'.2.1, if_neg a'.1, ih, List.append_assoc]
      rfl
/-- Bytes that are a stuffed text but for characters of a map come back. -/
theorem back_of (m n : Int) (l y : List Int) (hb : Bytes l) (h : (y.filter fun c => !hasv n c) = stuffv l m) : unstuffv y n = (l, true) := by
  unfold unstuffv
  rw [(unst_runst n y).1 [], h, runst_stuff m l hb [], List.nil_append]
theorem keep_all (m n : Int) (l : List Int) (hb : Bytes l) (hs : ∀ c, hasv n c = true → hasv m c = true) : ((stuffv l m).filter fun c => !hasv n c) = stuffv l m := by
  rw [List.filter_eq_self]
  intro c hc
  have := (stuff_out m l hb c hc).2
  by_cases h : hasv n c = true
  · rw [hs c h] at this
    cases this
  · simpa using h
end Go.Proofs.Ytgnonglkibhnhaa.Q

/- Registers of check sequences, over naturals: linear over bits. -/
namespace Go.Proofs.Ytgnonglkibhnhaa.Q
open Go.RowKit Go.Proofs.YtgnonglkibhnhaaW.PrintWords Go.Proofs.YtgnonglkibhnhaaW.PrintLast Go.Proofs.YtgnonglkibhnhaaW.PrintMore
set_option linter.unusedVariables false
set_option linter.unusedSimpArgs false

/-- One bit goes out of the register. -/
def S (p n : Nat) : Nat := if n % 2 = 1 then (n / 2) ^^^ p else n / 2
def Sn (p : Nat) : Nat → Nat → Nat
  | 0, n => n
  | k + 1, n => S p (Sn p k n)
theorem xor_half (a b : Nat) : (a ^^^ b) / 2 = (a / 2) ^^^ (b / 2) := by
  apply Nat.eq_of_testBit_eq
  intro i
  simp [Nat.testBit_xor, ← Nat.testBit_succ]
theorem xor_odd (a b : Nat) : ((a ^^^ b) % 2 = 1) ↔ ¬ ((a % 2 = 1) ↔ (b % 2 = 1)) := by
  have h : ∀ n : Nat, (n % 2 = 1) ↔ n.testBit 0 = true := fun n => by simp [Nat.testBit_zero]
  rw [h, h, h, Nat.testBit_xor]
  cases a.testBit 0 <;> cases b.testBit 0 <;> simp
theorem S_xor (p a b : Nat) : S p (a ^^^ b) = S p a ^^^ S p b := by
  unfold S
  have h := xor_odd a b
  rw [xor_half]
  by_cases ha : a % 2 = 1 <;> by_cases hb : b % 2 = 1
  · rw [if_neg (by rw [h]; simp [ha, hb]), if_pos ha, if_pos hb]
    rw [Nat.xor_assoc, ← Nat.xor_assoc p, Nat.xor_comm p, Nat.xor_assoc (b / 2), Nat.xor_self, Nat.xor_zero]
  · rw [if_pos (by rw [h]; simp [ha, hb]), if_pos ha, if_neg hb, Nat.xor_assoc, Nat.xor_assoc, Nat.xor_comm p]
  · rw [if_pos (by rw [h]; simp [ha, hb]), if_neg ha, if_pos hb, Nat.xor_assoc]
  · rw [if_neg (by rw [h]; simp [ha, hb]), if_neg ha, if_neg hb]
theorem Sn_xor (p k a b : Nat) : Sn p k (a ^^^ b) = Sn p k a ^^^ Sn p k b := by
  induction k with
  | zero => rfl
  | succ k ih => rw [Sn, ih, S_xor]; rfl
theorem Sn_add (p a b n : Nat) : Sn p (a + b) n = Sn p b (Sn p a n) := by
  induction b with
  | zero => rfl
  | succ b ih => rw [← Nat.add_assoc, Sn, ih]; rfl
theorem Sn_succ (p k n : Nat) : Sn p (k + 1) n = Sn p k (S p n) := by
  rw [Nat.add_comm, Sn_add]
  rfl
theorem S_two (p n : Nat) : S p (n * 2) = n := by
  unfold S
  rw [if_neg (by omega)]
  omega
theorem Sn_shift (p k n : Nat) : Sn p k (n * 2 ^ k) = n := by
  induction k generalizing n with
  | zero => simp [Sn]
  | succ k ih => rw [Sn, Nat.pow_succ, show n * (2 ^ k * 2) = n * 2 * 2 ^ k by rw [Nat.mul_comm (2 ^ k), Nat.mul_assoc], ih, S_two]
theorem Sn_zero (p k : Nat) : Sn p k 0 = 0 := by
  have := Sn_shift p k 0
  rwa [Nat.zero_mul] at this
theorem xor_split (n k : Nat) : (n % 2 ^ k) ^^^ (n / 2 ^ k * 2 ^ k) = n := by
  apply Nat.eq_of_testBit_eq
  intro i
  rw [Nat.testBit_xor, Nat.testBit_mod_two_pow, Nat.testBit_mul_two_pow]
  by_cases h : i < k
  · simp [h, Nat.not_le.2 h]
  · have h' : k ≤ i := by omega
    simp [h, h', Nat.testBit_div_two_pow, Nat.sub_add_cancel h', Nat.add_sub_cancel' h']
theorem add_xor {a k : Nat} (b : Nat) (h : a < 2 ^ k) : a + b * 2 ^ k = a ^^^ (b * 2 ^ k) := by
  have := xor_split (a + b * 2 ^ k) k
  rw [Nat.add_mul_mod_self_right, Nat.mod_eq_of_lt h, Nat.add_mul_div_right _ _ (Nat.two_pow_pos k), Nat.div_eq_of_lt h, Nat.zero_add] at this
  exact this.symm
/-- The bytes' number, the lowest first. -/
def leN : List Int → Nat
  | [] => 0
  | c :: l => c.toNat ^^^ (leN l * 256)
theorem leN_append (a b : List Int) : leN (a ++ b) = leN a ^^^ (leN b * 256 ^ a.length) := by
  induction a with
  | nil => simp [leN]
  | cons c a ih =>
    have hx : ∀ x y : Nat, (x ^^^ y) * 256 = (x * 256) ^^^ (y * 256) := fun x y => by
      apply Nat.eq_of_testBit_eq
      intro i
      rw [show (256 : Nat) = 2 ^ 8 from rfl, Nat.testBit_xor, Nat.testBit_mul_two_pow, Nat.testBit_mul_two_pow, Nat.testBit_mul_two_pow, Nat.testBit_xor]
      cases decide (8 ≤ i) <;> simp
    rw [List.cons_append, leN, leN, ih, hx, List.length_cons, Nat.pow_succ, Nat.xor_assoc, Nat.mul_assoc]
theorem leN_snoc (a : List Int) (c : Int) : leN (a ++ [c]) = leN a ^^^ (c.toNat * 256 ^ a.length) := by
  rw [leN_append]
  simp [leN]
/-- The register behind a byte. -/
def stpN (p r : Nat) (c : Int) : Nat := (r / 256) ^^^ Sn p 8 ((r % 256) ^^^ c.toNat)
theorem stpN_eq (p r : Nat) (c : Int) : stpN p r c = Sn p 8 (r ^^^ c.toNat) := by
  have h := xor_split r 8
  conv => rhs; rw [← h]
  rw [show (r % 2 ^ 8 ^^^ r / 2 ^ 8 * 2 ^ 8 ^^^ c.toNat) = ((r % 2 ^ 8 ^^^ c.toNat) ^^^ r / 2 ^ 8 * 2 ^ 8) by rw [Nat.xor_assoc, Nat.xor_comm (r / 2 ^ 8 * 2 ^ 8), Nat.xor_assoc], Sn_xor, Sn_shift, Nat.xor_comm]
  rfl
def moreN (p r : Nat) (l : List Int) : Nat := l.foldl (stpN p) r
theorem moreN_nil (p r : Nat) : moreN p r [] = r := rfl
theorem moreN_cons (p r : Nat) (c : Int) (l : List Int) : moreN p r (c :: l) = moreN p (stpN p r c) l := rfl
theorem moreN_append (p r : Nat) (a b : List Int) : moreN p r (a ++ b) = moreN p (moreN p r a) b := by simp [moreN]
theorem moreN_eq (p r : Nat) (l : List Int) : moreN p r l = Sn p (8 * l.length) (r ^^^ leN l) := by
  induction l generalizing r with
  | nil => simp [moreN, leN, Sn]
  | cons c l ih =>
    rw [moreN_cons, ih, stpN_eq, List.length_cons, show 8 * (l.length + 1) = 8 + 8 * l.length by omega, Sn_add, leN, ← Nat.xor_assoc, Sn_xor p 8 (r ^^^ c.toNat), show (256 : Nat) = 2 ^ 8 from rfl, Sn_shift]
theorem xor_zero_eq {a b : Nat} (h : a ^^^ b = 0) : a = b := by
  have h1 : (a ^^^ b) ^^^ b = b := by rw [h, Nat.zero_xor]
  rwa [Nat.xor_assoc, Nat.xor_self, Nat.xor_zero] at h1
theorem S_lt {p b n : Nat} (hp : p < 2 ^ b) (hn : n < 2 ^ b) : S p n < 2 ^ b := by
  unfold S
  split
  · exact Nat.xor_lt_two_pow (by omega) hp
  · omega
theorem Sn_lt {p b n : Nat} (k : Nat) (hp : p < 2 ^ b) (hn : n < 2 ^ b) : Sn p k n < 2 ^ b := by
  induction k with
  | zero => exact hn
  | succ k ih => exact S_lt hp ih
theorem stpN_lt {p b r : Nat} {c : Int} (hb : 8 ≤ b) (hp : p < 2 ^ b) (hr : r < 2 ^ b) (hc : 0 ≤ c ∧ c < 256) : stpN p r c < 2 ^ b := by
  rw [stpN_eq]
  have : 2 ^ 8 ≤ 2 ^ b := Nat.pow_le_pow_right (by decide) hb
  exact Sn_lt 8 hp (Nat.xor_lt_two_pow hr (by omega))
theorem moreN_lt {p b r : Nat} {l : List Int} (hb : 8 ≤ b) (hp : p < 2 ^ b) (hr : r < 2 ^ b) (hl : Bytes l) : moreN p r l < 2 ^ b := by
  induction l generalizing r with
  | nil => exact hr
  | cons c l ih => exact ih (stpN_lt hb hp hr (hl c (by simp))) (fun x hx => hl x (by simp [hx]))
theorem S_inj0 {p b n : Nat} (hp : 2 ^ (b - 1) ≤ p) (hb : 1 ≤ b) (hn : n < 2 ^ b) (h : S p n = 0) : n = 0 := by
  obtain ⟨c, rfl⟩ : ∃ c, b = c + 1 := ⟨b - 1, by omega⟩
  rw [Nat.add_sub_cancel] at hp
  rw [Nat.pow_succ] at hn
  unfold S at h
  split at h
  · have := xor_zero_eq h
    omega
  · omega
theorem Sn_inj0 {p b n : Nat} (k : Nat) (hp : 2 ^ (b - 1) ≤ p) (hp1 : p < 2 ^ b) (hb : 1 ≤ b) (hn : n < 2 ^ b) (h : Sn p k n = 0) : n = 0 := by
  induction k with
  | zero => exact h
  | succ k ih => exact ih (S_inj0 hp hb (Sn_lt k hp1 hn) h)
theorem Sn_inj {p b m n : Nat} (k : Nat) (hp : 2 ^ (b - 1) ≤ p) (hp1 : p < 2 ^ b) (hb : 1 ≤ b) (hm : m < 2 ^ b) (hn : n < 2 ^ b) (h : Sn p k m = Sn p k n) : m = n := by
  have h1 : Sn p k (m ^^^ n) = 0 := by rw [Sn_xor, h, Nat.xor_self]
  exact xor_zero_eq (Sn_inj0 k hp hp1 hb (Nat.xor_lt_two_pow hm hn) h1)
theorem leN_lt {l : List Int} (h : Bytes l) : leN l < 2 ^ (8 * l.length) := by
  induction l with
  | nil => simp [leN]
  | cons c l ih =>
    have hc := h c (by simp)
    have hl := ih (fun x hx => h x (by simp [hx]))
    rw [leN, List.length_cons, show (256 : Nat) = 2 ^ 8 from rfl, ← add_xor _ (by omega), show 8 * (l.length + 1) = 8 * l.length + 8 by omega, Nat.pow_add]
    omega
theorem leN_leb (n s : Nat) (h : n < 256 ^ s) : leN (leb (n : Int) s) = n := by
  induction s generalizing n with
  | zero => simp at h; subst h; rfl
  | succ s ih =>
    rw [Nat.pow_succ] at h
    rw [leb, leN, show ((n : Int) / 256) = ((n / 256 : Nat) : Int) by omega, ih (n / 256) (by omega), show ((n : Int) % 256).toNat = n % 2 ^ 8 by omega]
    exact xor_split n 8
theorem leb_leN {l : List Int} (h : Bytes l) : leb (leN l : Int) l.length = l := by
  induction l with
  | nil => rfl
  | cons c l ih =>
    have hc := h c (by simp)
    have hl := ih (fun x hx => h x (by simp [hx]))
    have e : leN (c :: l) = c.toNat + leN l * 256 := by
      rw [leN, show (256 : Nat) = 2 ^ 8 from rfl, ← add_xor _ (by omega)]
    rw [e, List.length_cons, leb, show (((c.toNat + leN l * 256 : Nat) : Int) % 256) = c by omega, show (((c.toNat + leN l * 256 : Nat) : Int) / 256) = (leN l : Int) by omega, hl]
theorem ones_sub {b m : Nat} (h : m < 2 ^ b) : (2 ^ b - 1) - m = m ^^^ (2 ^ b - 1) := by
  rw [show 2 ^ b - 1 - m = 2 ^ b - (m + 1) by omega]
  apply Nat.eq_of_testBit_eq
  intro i
  rw [Nat.testBit_two_pow_sub_succ h, Nat.testBit_xor, Nat.testBit_two_pow_sub_one]
  by_cases hi : i < b
  · simp [hi]
  · rw [Nat.testBit_lt_two_pow (Nat.lt_of_lt_of_le h (Nat.pow_le_pow_right (by decide) (by omega)))]
    simp [hi]
/-- The check sequences' numbers. -/
def byN (wide : Bool) : Nat := if wide = true then 3988292384 else 33800
def wid (wide : Bool) : Nat := if wide = true then 32 else 16
def allN (wide : Bool) : Nat := 2 ^ wid wide - 1
def goodN (wide : Bool) : Nat := if wide = true then 3736805603 else 61624
def sizeN (wide : Bool) : Nat := if wide = true then 4 else 2
theorem byN_lt (wide : Bool) : byN wide < 2 ^ wid wide := by cases wide <;> decide
theorem byN_ge (wide : Bool) : 2 ^ (wid wide - 1) ≤ byN wide := by cases wide <;> decide
theorem wid_ge (wide : Bool) : 8 ≤ wid wide := by cases wide <;> decide
theorem wid_le (wide : Bool) : wid wide ≤ 32 := by cases wide <;> decide
theorem wid_size (wide : Bool) : wid wide = 8 * sizeN wide := by cases wide <;> rfl
theorem allN_lt (wide : Bool) : allN wide < 2 ^ wid wide := by cases wide <;> decide
theorem good_eq (wide : Bool) : Sn (byN wide) (wid wide) (allN wide) = goodN wide := by cases wide <;> decide +kernel
def ofN (l : List Int) (wide : Bool) : Nat := moreN (byN wide) (allN wide) l ^^^ allN wide
theorem more_lt (l : List Int) (wide : Bool) (r : Nat) (hr : r < 2 ^ wid wide) (h : Bytes l) : moreN (byN wide) r l < 2 ^ wid wide := moreN_lt (wid_ge wide) (byN_lt wide) hr h
theorem of_lt (l : List Int) (wide : Bool) (h : Bytes l) : ofN l wide < 2 ^ wid wide := Nat.xor_lt_two_pow (more_lt l wide _ (allN_lt wide) h) (allN_lt wide)
theorem pow256_wid (wide : Bool) : 256 ^ sizeN wide = 2 ^ wid wide := by cases wide <;> decide
/-- What ends in the check sequence of what is ahead, and nothing else, leads to the good register. -/
theorem good_iff (x s : List Int) (wide : Bool) (hx : Bytes x) (hs : Bytes s) (hl : s.length = sizeN wide) : moreN (byN wide) (allN wide) (x ++ s) = goodN wide ↔ s = leb (ofN x wide : Int) (sizeN wide) := by
  have h1 : moreN (byN wide) (allN wide) (x ++ s) = Sn (byN wide) (wid wide) (moreN (byN wide) (allN wide) x ^^^ leN s) := by
    rw [moreN_append, moreN_eq _ _ s, hl, ← wid_size]
  have hm := more_lt x wide _ (allN_lt wide) hx
  have hn : leN s < 2 ^ wid wide := by
    have := leN_lt hs
    rwa [hl, ← wid_size] at this
  rw [h1, ← good_eq]
  constructor
  · intro h
    have e := Sn_inj (wid wide) (byN_ge wide) (byN_lt wide) (by have := wid_ge wide; omega) (Nat.xor_lt_two_pow hm hn) (allN_lt wide) h
    have e2 : leN s = ofN x wide := by
      unfold ofN
      conv => rhs; rhs; rw [← e]
      rw [← Nat.xor_assoc, Nat.xor_self, Nat.zero_xor]
    rw [← e2, ← hl, leb_leN hs]
  · intro h
    have e2 : leN s = ofN x wide := by
      rw [h, leN_leb _ _ (by rw [pow256_wid]; exact of_lt x wide hx)]
    rw [e2]
    unfold ofN
    rw [← Nat.xor_assoc, Nat.xor_self, Nat.zero_xor]
end Go.Proofs.Ytgnonglkibhnhaa.Q

/- The functions of fcs, told by registers over naturals. -/
namespace Go.Proofs.Ytgnonglkibhnhaa.Q
open Go.RowKit Go.Proofs.Ytgnonglkibhnhaa.Print Go.Proofs.YtgnonglkibhnhaaW.PrintWords Go.Proofs.YtgnonglkibhnhaaW.PrintLast Go.Proofs.YtgnonglkibhnhaaW.PrintMore
set_option linter.unusedVariables false
set_option linter.unusedSimpArgs false

theorem bits_u32_xor {a b : Nat} (ha : a < 4294967296) (hb : b < 4294967296) : Go.bits .xor .u32 (a : Int) (b : Int) = ((a ^^^ b : Nat) : Int) := by
  have h1 : a ^^^ b < 2 ^ 32 := Nat.xor_lt_two_pow (by omega) (by omega)
  have e2 : (BitVec.ofNat 32 a ^^^ BitVec.ofNat 32 b).toNat = a ^^^ b := by
    rw [BitVec.toNat_xor, BitVec.toNat_ofNat, BitVec.toNat_ofNat, Nat.mod_eq_of_lt (show a < 2 ^ 32 by omega), Nat.mod_eq_of_lt (show b < 2 ^ 32 by omega)]
  have e3 := wu32s (x := ((a ^^^ b : Nat) : Int)) (by omega) (by omega)
  rw [← e2] at e3
  rw [← e2]
  exact e3
theorem bits_u8_xor {a b : Nat} (ha : a < 256) (hb : b < 256) : Go.bits .xor .u8 (a : Int) (b : Int) = ((a ^^^ b : Nat) : Int) := by
  have h1 : a ^^^ b < 2 ^ 8 := Nat.xor_lt_two_pow (by omega) (by omega)
  have e2 : (BitVec.ofNat 8 a ^^^ BitVec.ofNat 8 b).toNat = a ^^^ b := by
    rw [BitVec.toNat_xor, BitVec.toNat_ofNat, BitVec.toNat_ofNat, Nat.mod_eq_of_lt (by simpa using ha), Nat.mod_eq_of_lt (by simpa using hb)]
  have e3 := wraps_u8 (((a ^^^ b : Nat) : Int)) (by omega) (by omega)
  rw [← e2] at e3
  rw [← e2]
  exact e3
theorem bit_nat (p n : Nat) (hp : p < 2 ^ 32) (hn : n < 2 ^ 32) : fcs_table.bit (p : Int) (n : Int) = ((S p n : Nat) : Int) := by
  unfold fcs_table.bit S
  rw [u32_low (by omega) (by omega), show ((n : Int) / 2) = ((n / 2 : Nat) : Int) by omega]
  by_cases h : n % 2 = 1
  · rw [if_pos (by omega), if_pos h, bits_u32_xor (by omega) (by omega)]
  · rw [if_neg (by omega), if_neg h]
theorem bitn_nat (p n k : Nat) (hp : p < 2 ^ 32) (hn : n < 2 ^ 32) : fcs_table.bitn (p : Int) k (n : Int) = ((Sn p k n : Nat) : Int) := by
  induction k with
  | zero => rfl
  | succ k ih => rw [fcs_table.bitn, ih, bit_nat _ _ hp (Sn_lt k hp hn)]; rfl
theorem by_nat (wide : Bool) : fcs_table.by wide = (byN wide : Int) := by cases wide <;> rfl
theorem byN_32 (wide : Bool) : byN wide < 2 ^ 32 := by cases wide <;> decide
theorem allN_32 (wide : Bool) : allN wide < 4294967296 := by cases wide <;> decide
theorem all_spec (wide : Bool) : fcs_all.f wide = some (allN wide : Int) := by cases wide <;> rfl
theorem size_nat (wide : Bool) : fcs_Size.f wide = some (sizeN wide : Int) := by cases wide <;> rfl
theorem stp_nat (p r : Nat) (c : Int) (hp : p < 2 ^ 32) (hr : r < 2 ^ 32) (hc : 0 ≤ c ∧ c < 256) : fcs_More.stp (p : Int) (r : Int) c = ((stpN p r c : Nat) : Int) := by
  obtain ⟨n, rfl⟩ := Int.eq_ofNat_of_zero_le hc.1
  have h1 : r % 256 ^^^ n < 2 ^ 8 := Nat.xor_lt_two_pow (by omega) (by omega)
  have h2 : r % 256 ^^^ n < 2 ^ 32 := by omega
  unfold fcs_More.stp stpN
  rw [show ((r : Int) % 256) = ((r % 256 : Nat) : Int) by omega, bits_u8_xor (by omega) (by omega), bitn_nat _ _ _ hp h2, show ((r : Int) / 256) = ((r / 256 : Nat) : Int) by omega, Int.toNat_natCast]
  exact bits_u32_xor (by omega) (Sn_lt 8 hp h2)
theorem fold_nat (p : Nat) (hp : p < 2 ^ 32) (l : List Int) (hl : Bytes l) : ∀ r : Nat, r < 2 ^ 32 → l.foldl (fcs_More.stp (p : Int)) (r : Int) = ((moreN p r l : Nat) : Int) := by
  induction l with
  | nil => intro r hr; rfl
  | cons c l ih =>
    intro r hr
    have hc := hl c (by simp)
    rw [List.foldl_cons, stp_nat p r c hp hr hc, ih (fun x hx => hl x (by simp [hx])) _ (stpN_lt (by decide) hp hr hc)]
    rfl
theorem and_all (n : Nat) (wide : Bool) : n &&& allN wide = n % 2 ^ wid wide := Nat.and_two_pow_sub_one_eq_mod n (wid wide)
theorem more_spec (n : Nat) (l : List Int) (wide : Bool) (hn : n < 4294967296) (hl : Bytes l) : fcs_More.f (n : Int) l wide = some ((moreN (byN wide) (n % 2 ^ wid wide) l : Nat) : Int) := by
  unfold fcs_More.f
  rw [all_spec, Option.bind_some, by_nat, bits_u32_and hn (allN_32 wide), and_all, fold_nat _ (byN_32 wide) l hl]
  have : n % 2 ^ wid wide ≤ n := Nat.mod_le _ _
  omega
theorem all_mod (wide : Bool) : allN wide % 2 ^ wid wide = allN wide := Nat.mod_eq_of_lt (allN_lt wide)
theorem more_all (l : List Int) (wide : Bool) (hl : Bytes l) : fcs_More.f (allN wide : Int) l wide = some ((moreN (byN wide) (allN wide) l : Nat) : Int) := by
  have := more_spec (allN wide) l wide (allN_32 wide) hl
  rwa [all_mod] at this
theorem lt32 {n : Nat} {wide : Bool} (h : n < 2 ^ wid wide) : n < 4294967296 := by
  have : 2 ^ wid wide ≤ 2 ^ 32 := Nat.pow_le_pow_right (by decide) (wid_le wide)
  omega
theorem of_spec (l : List Int) (wide : Bool) (hl : Bytes l) : fcs_Of.f l wide = some ((ofN l wide : Nat) : Int) := by
  unfold fcs_Of.f
  simp only [all_spec, more_all l wide hl, Option.bind_some]
  rw [bits_u32_xor (lt32 (more_lt l wide _ (allN_lt wide) hl)) (allN_32 wide)]
  rfl
/-- Bytes, sealed. -/
def sealv (l : List Int) (wide : Bool) : List Int := l ++ leb (ofN l wide : Int) (sizeN wide)
theorem sealv_bytes {l : List Int} (h : Bytes l) (wide : Bool) : Bytes (sealv l wide) := h.append (leb_bytes _ _)
theorem sealv_length (l : List Int) (wide : Bool) : (sealv l wide).length = l.length + sizeN wide := by
  unfold sealv
  rw [List.length_append, leb_length]
theorem sizeN_le (wide : Bool) : sizeN wide ≤ 4 := by cases wide <;> decide
theorem seal_loop (d : Nat) : ∀ (i s : Nat) (acc : List Int) (n : Int), s = i + d → s ≤ 4 → acc.length + d < 140737488355328 → 0 ≤ n →
    Ev (fun k => fcs_Seal.l0 k acc n (s : Int) (i : Int)) (acc ++ leb n d) := by
  induction d with
  | zero =>
    intro i s acc n hs h4 ha hn
    refine Ev.step (f := fun _ => some (acc ++ leb n 0)) (fun k => ?_) (Ev.now _)
    rw [fcs_Seal.l0, if_neg (by omega)]
    simp [leb]
  | succ d ih =>
    intro i s acc n hs h4 ha hn
    have next := ih (i + 1) s (acc ++ [n % 256]) (n / 256) (by omega) h4 (by simp; omega) (by omega)
    rw [List.append_assoc] at next
    refine Ev.step (fun k => ?_) next
    rw [fcs_Seal.l0, if_pos (by omega), if_pos (by omega), w64 (by omega) (by omega)]
    rfl
theorem seal_spec (l : List Int) (wide : Bool) (hl : Bytes l) (hn : l.length ≤ 100000) : Ev (fun k => fcs_Seal.f k l wide) (sealv l wide) := by
  have h4 := sizeN_le wide
  unfold fcs_Seal.f
  refine Ev.bind (Ev.const (show slices_Clone_byte_byte.f l = some l by unfold slices_Clone_byte_byte.f; rw [if_pos (by omega)])) ?_
  simp only [of_spec l wide hl, size_nat, Option.bind_some]
  exact seal_loop (sizeN wide) 0 (sizeN wide) l (ofN l wide : Int) (by omega) h4 (by omega) (by omega)
def goodv (l : List Int) (wide : Bool) : Bool := decide (sizeN wide ≤ l.length) && decide (moreN (byN wide) (allN wide) l = goodN wide)
theorem good_spec (l : List Int) (wide : Bool) (hl : Bytes l) : fcs_Good.f l wide = some (goodv l wide) := by
  unfold fcs_Good.f goodv
  simp only [size_nat, all_spec, more_all l wide hl, Option.bind_some]
  by_cases h : sizeN wide ≤ l.length
  · have h' : (l.length : Int) ≥ (sizeN wide : Int) := by omega
    simp only [h, h', decide_true, Bool.true_and, if_true]
    have e : ∀ a b : Nat, ((a : Int) == (b : Int)) = decide (a = b) := fun a b => by
      rw [Bool.eq_iff_iff, beq_iff_eq, decide_eq_true_iff]
      omega
    cases wide
    · simp only [Bool.false_eq_true, if_false]
      exact congrArg some (e _ 61624)
    · simp only [if_true]
      exact congrArg some (e _ 3736805603)
  · have h' : ¬ (l.length : Int) ≥ (sizeN wide : Int) := by omega
    simp only [h, h', decide_false, Bool.false_and, if_false]
    cases wide <;> rfl
def openv (l : List Int) (wide : Bool) : List Int × Bool := if goodv l wide = true then (l.take (l.length - sizeN wide), true) else ([], false)
theorem open_spec (l : List Int) (wide : Bool) (hl : Bytes l) (hn : l.length ≤ 100000) : fcs_Open.f l wide = some (openv l wide) := by
  unfold fcs_Open.f openv
  rw [good_spec l wide hl, Option.bind_some]
  have h4 := sizeN_le wide
  by_cases h : goodv l wide = true
  · have hs : sizeN wide ≤ l.length := by
      unfold goodv at h
      simp only [Bool.and_eq_true, decide_eq_true_eq] at h
      exact h.1
    rw [if_pos h, if_pos h, size_nat, Option.bind_some, w64 (by omega) (by omega), if_pos (by omega), if_pos (by omega), show (((l.length : Int) - (sizeN wide : Int)).toNat) = l.length - sizeN wide by omega]
    unfold slices_Clone_byte_byte.f
    rw [if_pos (by rw [List.length_take]; omega)]
    rfl
  · rw [if_neg h, if_neg h]
/-- What is good is sealed, and what is sealed is good. -/
theorem goodv_iff (l : List Int) (wide : Bool) (hl : Bytes l) (hs : sizeN wide ≤ l.length) : goodv l wide = true ↔ sealv (l.take (l.length - sizeN wide)) wide = l := by
  have e := List.take_append_drop (l.length - sizeN wide) l
  have h := good_iff (l.take (l.length - sizeN wide)) (l.drop (l.length - sizeN wide)) wide (hl.take _) (hl.drop _) (by rw [List.length_drop]; omega)
  rw [e] at h
  unfold goodv
  simp only [hs, decide_true, Bool.true_and, decide_eq_true_eq]
  rw [h]
  unfold sealv
  constructor
  · intro h1
    rw [← h1, e]
  · intro h1
    have h2 : l.take (l.length - sizeN wide) ++ leb (ofN (l.take (l.length - sizeN wide)) wide : Int) (sizeN wide) = l.take (l.length - sizeN wide) ++ l.drop (l.length - sizeN wide) := by rw [h1, e]
    exact (List.append_cancel_left h2).symm
theorem good_sealv (l : List Int) (wide : Bool) (hl : Bytes l) : goodv (sealv l wide) wide = true := by
  rw [goodv_iff _ _ (sealv_bytes hl wide) (by rw [sealv_length]; omega), sealv_length, Nat.add_sub_cancel]
  congr 1
  unfold sealv
  simp
theorem open_sealv (l : List Int) (wide : Bool) (hl : Bytes l) : openv (sealv l wide) wide = (l, true) := by
  unfold openv
  rw [if_pos (good_sealv l wide hl), sealv_length, Nat.add_sub_cancel]
  unfold sealv
  simp
end Go.Proofs.Ytgnonglkibhnhaa.Q

/- The deframer, told by lists: its state behind bytes, and what comes of the pieces between flags. -/
namespace Go.Proofs.Ytgnonglkibhnhaa.Q
open Go.RowKit Go.Proofs.Ytgnonglkibhnhaa.Print Go.Proofs.YtgnonglkibhnhaaW.PrintWords Go.Proofs.YtgnonglkibhnhaaW.PrintLast Go.Proofs.YtgnonglkibhnhaaW.PrintMore
set_option linter.unusedVariables false
set_option linter.unusedSimpArgs false

theorem unst_bytes (m : Int) : ∀ (l : List Int) (b : Bool) (acc : List Int), Bytes l → Bytes acc → Bytes (unst m l b acc).1
  | [], b, acc, _, ha => by
    unfold unst
    split
    · exact Bytes.nil
    · exact ha
  | c :: t, b, acc, hl, ha => by
    have hc := hl c (by simp)
    have ht : Bytes t := fun x hx => hl x (by simp [hx])
    unfold unst
    split
    · exact Bytes.nil
    · split
      · exact unst_bytes m t b acc ht ha
      · split
        · exact unst_bytes m t false _ ht (ha.append (Bytes.cons (turnv_range hc) Bytes.nil))
        · split
          · exact unst_bytes m t true acc ht ha
          · exact unst_bytes m t b _ ht (ha.append (Bytes.cons hc Bytes.nil))
theorem unstuffv_bytes {l : List Int} (h : Bytes l) (m : Int) : Bytes (unstuffv l m).1 := unst_bytes m l false [] h Bytes.nil
theorem size_df (wide : Bool) : DF.size wide = (sizeN wide : Int) := by cases wide <;> rfl
/-- What a frame as it stands is taken for. -/
def closev (m : Int) (wide : Bool) (s : DF) : DF :=
  if (unstuffv s.held m).2 = true then
    if (unstuffv s.held m).1.length = 0 then s
    else if ((unstuffv s.held m).1.length : Int) < DF.size wide + 2 then { s with ts := wrap64 (s.ts + 1) }
    else if ((unstuffv s.held m).1.length : Int) > DF.size wide + 65535 then { s with tl := wrap64 (s.tl + 1) }
    else if (openv (unstuffv s.held m).1 wide).2 = true then { s with tg := wrap64 (s.tg + 1), done := s.done ++ [(openv (unstuffv s.held m).1 wide).1] }
    else { s with tw := wrap64 (s.tw + 1) }
  else { s with ta := wrap64 (s.ta + 1) }
theorem close_spec (m : Int) (wide : Bool) (s : DF) (h0 : 0 ≤ m) (h1 : m < 4294967296) (hb : Bytes s.held) (hl : s.held.length < 70368744177664) (hd : s.done.length < 5864062014805) : Ev (fun k => DF.close k m wide s) (closev m wide s) := by
  unfold DF.close
  refine Ev.bind (unstuff_spec s.held m hb h0 h1 hl) ?_
  have hz := DF.size_le wide
  have hu := unstuffv_bytes hb m
  unfold closev
  by_cases a : (unstuffv s.held m).2 = true
  · simp only [a, if_true]
    by_cases b : (unstuffv s.held m).1.length = 0
    · simp only [b, if_true]
      exact Ev.now _
    · simp only [b, if_false]
      by_cases c : ((unstuffv s.held m).1.length : Int) < DF.size wide + 2
      · simp only [c, if_true]
        exact Ev.now _
      · simp only [c, if_false]
        by_cases d : ((unstuffv s.held m).1.length : Int) > DF.size wide + 65535
        · simp only [d, if_true]
          exact Ev.now _
        · simp only [d, if_false]
          rw [open_spec _ wide hu (by omega)]
          simp only [Option.bind_some]
          by_cases e : (openv (unstuffv s.held m).1 wide).2 = true
          · simp only [e, if_true, hd]
            exact Ev.now _
          · simp only [e, if_false]
            exact Ev.now _
  · simp only [a, if_false]
    exact Ev.now _
def stepv (m : Int) (wide : Bool) (s : DF) (c : Int) : DF :=
  if s.inn = true then if c = 126 then { closev m wide s with held := [] } else { s with held := s.held ++ [c] }
  else if c = 126 then { s with inn := true } else s
def feedv (m : Int) (wide : Bool) (s : DF) (l : List Int) : DF := l.foldl (stepv m wide) s
theorem feedv_nil (m : Int) (wide : Bool) (s : DF) : feedv m wide s [] = s := rfl
theorem feedv_cons (m : Int) (wide : Bool) (s : DF) (c : Int) (l : List Int) : feedv m wide s (c :: l) = feedv m wide (stepv m wide s c) l := rfl
theorem feedv_append (m : Int) (wide : Bool) (s : DF) (a b : List Int) : feedv m wide s (a ++ b) = feedv m wide (feedv m wide s a) b := by unfold feedv; rw [List.foldl_append]
theorem closev_held (m : Int) (wide : Bool) (s : DF) : (closev m wide s).held = s.held ∧ (closev m wide s).inn = s.inn ∧ (closev m wide s).done.length ≤ s.done.length + 1 := by
  unfold closev
  repeat' split
  all_goals exact ⟨rfl, rfl, by first | (simp; done) | omega⟩
theorem stepv_held (m : Int) (wide : Bool) (s : DF) (c : Int) : (stepv m wide s c).held.length ≤ s.held.length + 1 ∧ (stepv m wide s c).done.length ≤ s.done.length + 1 := by
  have h := closev_held m wide s
  unfold stepv
  repeat' split
  · exact ⟨by simp, h.2.2⟩
  · exact ⟨by simp, by simp⟩
  · exact ⟨by simp, by simp⟩
  · exact ⟨by omega, by omega⟩
theorem stepv_bytes {m : Int} {wide : Bool} {s : DF} {c : Int} (hs : Bytes s.held) (hc : 0 ≤ c ∧ c < 256) : Bytes (stepv m wide s c).held := by
  unfold stepv
  repeat' split
  · exact Bytes.nil
  · exact hs.append (Bytes.cons hc Bytes.nil)
  · exact hs
  · exact hs
theorem step_spec (m : Int) (wide : Bool) (s : DF) (c : Int) (h0 : 0 ≤ m) (h1 : m < 4294967296) (hb : Bytes s.held) (hl : s.held.length < 70368744177664) (hd : s.done.length < 5864062014805) : Ev (fun k => DF.step k m wide s c) (stepv m wide s c) := by
  unfold DF.step stepv
  by_cases a : s.inn = true
  · simp only [a, if_true]
    by_cases b : c = 126
    · simp only [b, if_true]
      exact Ev.bind (close_spec m wide s h0 h1 hb hl hd) (Ev.now _)
    · simp only [b, if_false, show s.held.length < 140737488355328 by omega, if_true]
      exact Ev.now _
  · simp only [a, if_false]
    by_cases b : c = 126
    · simp only [b, if_true]
      exact Ev.now _
    · simp only [b, if_false]
      exact Ev.now _
theorem feed_spec (m : Int) (wide : Bool) (h0 : 0 ≤ m) (h1 : m < 4294967296) : ∀ (l : List Int) (s : DF), Bytes l → Bytes s.held → s.held.length + l.length ≤ 1000000000 → s.done.length + l.length ≤ 1000000000 → Ev (fun k => DF.feed k m wide s l) (feedv m wide s l)
  | [], s, _, _, _, _ => Ev.now _
  | c :: l, s, hl, hs, h2, h3 => by
    have hc := hl c (by simp)
    have ht : Bytes l := fun x hx => hl x (by simp [hx])
    rw [List.length_cons] at h2 h3
    have h4 := stepv_held m wide s c
    exact Ev.bind (step_spec m wide s c h0 h1 hs (by omega) (by omega)) (feed_spec m wide h0 h1 l _ ht (stepv_bytes hs hc) (by omega) (by omega))
/-- What a stream comes to. -/
def allv (m : Int) (wide : Bool) (l : List Int) : (List (List Int)) × Int × Int × Int × Int × Int :=
  ((feedv m wide DF.init l).done, (feedv m wide DF.init l).tg, (feedv m wide DF.init l).ta, (feedv m wide DF.init l).ts, (feedv m wide DF.init l).tl, (feedv m wide DF.init l).tw)
theorem all_spec_f (m : Int) (wide : Bool) (l : List Int) (h0 : 0 ≤ m) (h1 : m < 4294967296) (hb : Bytes l) (hl : l.length ≤ 1000000000) : Ev (fun k => frame_All.f k l m wide) (allv m wide l) :=
  Ev.bind (feed_spec m wide h0 h1 l DF.init hb Bytes.nil (by show 0 + l.length ≤ _; omega) (by show 0 + l.length ≤ _; omega)) (Ev.now _)

/-! ### the pieces between flags -/
def segs : Bool → List Int → List Int → List (List Int)
  | _, _, [] => []
  | true, h, c :: l => if c = 126 then h :: segs true [] l else segs true (h ++ [c]) l
  | false, h, c :: l => if c = 126 then segs true h l else segs false h l
/-- What is counted, and done. -/
def norm (s : DF) : DF := { s with inn := false, held := [] }
def tally (m : Int) (wide : Bool) (s : DF) (f : List Int) : DF := norm (closev m wide { s with held := f })
theorem tally_norm (m : Int) (wide : Bool) (s : DF) : norm { closev m wide s with held := [] } = tally m wide (norm s) s.held := by
  unfold tally norm closev
  simp only []
  repeat' split
  all_goals rfl
theorem feedv_segs (m : Int) (wide : Bool) : ∀ (l : List Int) (s : DF), (s.inn = false → s.held = []) → norm (feedv m wide s l) = (segs s.inn s.held l).foldl (tally m wide) (norm s)
  | [], s, _ => by
    unfold segs
    rfl
  | c :: l, s, hs => by
    rw [feedv_cons]
    cases hi : s.inn with
    | true =>
      by_cases b : c = 126
      · have e : stepv m wide s c = { closev m wide s with held := [] } := by unfold stepv; rw [if_pos hi, if_pos b]
        have hin : (stepv m wide s c).inn = true := by rw [e]; exact (closev_held m wide s).2.1.trans hi
        rw [feedv_segs m wide l (stepv m wide s c) (fun h => by rw [hin] at h; cases h), hin, segs, if_pos b, List.foldl_cons, ← tally_norm, e]
      · have e : stepv m wide s c = { s with held := s.held ++ [c] } := by unfold stepv; rw [if_pos hi, if_neg b]
        have hin : (stepv m wide s c).inn = true := by rw [e]; exact hi
        rw [feedv_segs m wide l (stepv m wide s c) (fun h => by rw [hin] at h; cases h), hin, segs, if_neg b, e]
        rfl
    | false =>
      have hh := hs hi
      by_cases b : c = 126
      · have e : stepv m wide s c = { s with inn := true } := by unfold stepv; rw [if_neg (by rw [hi]; decide), if_pos b]
        rw [feedv_segs m wide l (stepv m wide s c) (fun h => by rw [e] at h; cases h), e, segs, if_pos b]
        rfl
      · have e : stepv m wide s c = s := by unfold stepv; rw [if_neg (by rw [hi]; decide), if_neg b]
        rw [e, feedv_segs m wide l s hs, hi, segs, if_neg b]
end Go.Proofs.Ytgnonglkibhnhaa.Q

/- The functions of fcs's reference, told by registers over naturals. -/
namespace Go.Proofs.Ytgnonglkibhnhaa.Q
open Go.RowKit Go.Proofs.Ytgnonglkibhnhaa.Print Go.Proofs.YtgnonglkibhnhaaW.PrintWords Go.Proofs.YtgnonglkibhnhaaW.PrintLast Go.Proofs.YtgnonglkibhnhaaW.PrintMore
set_option linter.unusedVariables false
set_option linter.unusedSimpArgs false

theorem ones_nat (wide : Bool) : umpireref04_ones.f wide = some (allN wide : Int) := by cases wide <;> rfl
theorem rsize_nat (wide : Bool) : umpireref04_Size.f wide = some (sizeN wide : Int) := by cases wide <;> rfl
theorem rbits_loop (p : Nat) (hp : p < 2 ^ 32) (l : List Int) (i : Nat) (r : Nat) (d : Nat) : ∀ (j w : Nat), j + d = 8 → w < 2 ^ 32 →
    Ev (fun k => umpireref04_More.l0 k l (p : Int) ((Sn p d w : Nat) : Int) (wrap64 ((i : Int) + 1))) (r : Int) →
    Ev (fun k => umpireref04_More.l1 k l (p : Int) (w : Int) (i : Int) (j : Int)) (r : Int) := by
  induction d with
  | zero =>
    intro j w hj hw h
    refine Ev.step (fun k => ?_) h
    rw [umpireref04_More.l1, if_neg (by omega)]
    rfl
  | succ d ih =>
    intro j w hj hw h
    rw [Sn_succ] at h
    refine Ev.step (fun k => ?_) (ih (j + 1) (S p w) (by omega) (S_lt hp hw) h)
    rw [umpireref04_More.l1, if_pos (by omega)]
    have e1 : Int.tmod (w : Int) 2 = ((w % 2 : Nat) : Int) := by
      rw [Int.tmod_eq_emod_of_nonneg (by omega)]
      omega
    have e2 : Int.tdiv (w : Int) 2 % 4294967296 = ((w / 2 : Nat) : Int) := by
      rw [Int.tdiv_eq_ediv_of_nonneg (by omega)]
      omega
    rw [e1, e2, w64 (by omega) (by omega)]
    unfold S
    by_cases c : w % 2 = 1
    · rw [if_pos (by omega), if_pos c, bits_u32_xor (by omega) (by omega)]
      rfl
    · rw [if_neg (by omega), if_neg c]
      rfl
theorem rmore_loop (p : Nat) (hp : p < 2 ^ 32) (l : List Int) (hl : Bytes l) (hn : l.length ≤ 100000) (d : Nat) : ∀ (i w : Nat), l.length - i = d → i ≤ l.length → w < 2 ^ 32 →
    Ev (fun k => umpireref04_More.l0 k l (p : Int) (w : Int) (i : Int)) ((moreN p w (l.drop i) : Nat) : Int) := by
  induction d with
  | zero =>
    intro i w hd hi hw
    refine Ev.step (f := fun _ => some ((moreN p w (l.drop i) : Nat) : Int)) (fun k => ?_) (Ev.now _)
    rw [umpireref04_More.l0, if_neg (by omega), List.drop_of_length_le (by omega)]
    rfl
  | succ d ih =>
    intro i w hd hi hw
    have hil : i < l.length := by omega
    have hc := hl _ (List.getElem_mem hil)
    obtain ⟨c, e⟩ := Int.eq_ofNat_of_zero_le hc.1
    have hc2 : c < 256 := by omega
    rw [List.drop_eq_getElem_cons hil, moreN_cons]
    refine Ev.step (fun k => ?_) (rbits_loop p hp l i _ 8 0 (w ^^^ c) (by omega) (Nat.xor_lt_two_pow hw (by omega)) ?_)
    · rw [umpireref04_More.l0, if_pos (by omega), if_pos (by omega), rd_get i hil, e, show ((c : Int) % 4294967296) = (c : Int) by omega, bits_u32_xor (by omega) (by omega)]
      rfl
    · have h := ih (i + 1) (stpN p w l[i]) (by omega) (by omega) (stpN_lt (by decide) hp hw hc)
      rw [w64 (by omega) (by omega)]
      rw [stpN_eq, e, Int.toNat_natCast] at h
      rw [stpN_eq, e, Int.toNat_natCast]
      exact h
theorem rmore_spec (n : Nat) (l : List Int) (wide : Bool) (hn : n < 4294967296) (hl : Bytes l) (hs : l.length ≤ 100000) : Ev (fun k => umpireref04_More.f k (n : Int) l wide) ((moreN (byN wide) (n % 2 ^ wid wide) l : Nat) : Int) := by
  have hm : n % 2 ^ wid wide < 2 ^ 32 := by
    have : n % 2 ^ wid wide ≤ n := Nat.mod_le _ _
    omega
  have h := rmore_loop (byN wide) (byN_32 wide) l hl hs l.length 0 (n % 2 ^ wid wide) (by omega) (by omega) hm
  rw [List.drop_zero] at h
  have hj : Ev (fun k => umpireref04_More.j0 k (n : Int) l wide (byN wide : Int)) ((moreN (byN wide) (n % 2 ^ wid wide) l : Nat) : Int) := by
    refine Ev.step (fun k => ?_) h
    rw [umpireref04_More.j0, ones_nat, Option.bind_some, bits_u32_and hn (allN_32 wide), and_all]
    rfl
  unfold umpireref04_More.f
  cases wide
  · exact hj
  · exact hj
theorem rmore_all (l : List Int) (wide : Bool) (hl : Bytes l) (hs : l.length ≤ 100000) : Ev (fun k => umpireref04_More.f k (allN wide : Int) l wide) ((moreN (byN wide) (allN wide) l : Nat) : Int) := by
  have := rmore_spec (allN wide) l wide (allN_32 wide) hl hs
  rwa [all_mod] at this
theorem rof_spec (l : List Int) (wide : Bool) (hl : Bytes l) (hs : l.length ≤ 100000) : Ev (fun k => umpireref04_Of.f k l wide) ((ofN l wide : Nat) : Int) := by
  unfold umpireref04_Of.f
  simp only [ones_nat, Option.bind_some]
  refine Ev.bind (rmore_all l wide hl hs) ?_
  have h1 := more_lt l wide _ (allN_lt wide) hl
  have h2 := ones_sub h1
  have h3 := allN_32 wide
  have h4 : moreN (byN wide) (allN wide) l ≤ allN wide := by
    unfold allN at h1 ⊢
    omega
  have h5 : (((allN wide : Nat) : Int) - ((moreN (byN wide) (allN wide) l : Nat) : Int)) % 4294967296 = ((ofN l wide : Nat) : Int) := by
    unfold ofN
    unfold allN at h2 h3 h4 ⊢
    rw [← h2]
    omega
  rw [h5]
  exact Ev.now _
end Go.Proofs.Ytgnonglkibhnhaa.Q

/- Seal and Open of fcs's reference. -/
namespace Go.Proofs.Ytgnonglkibhnhaa.Q
open Go.RowKit Go.Proofs.Ytgnonglkibhnhaa.Print Go.Proofs.YtgnonglkibhnhaaW.PrintWords Go.Proofs.YtgnonglkibhnhaaW.PrintLast Go.Proofs.YtgnonglkibhnhaaW.PrintMore
set_option linter.unusedVariables false
set_option linter.unusedSimpArgs false

theorem rseal_loop (wide : Bool) (d : Nat) : ∀ (i : Nat) (acc : List Int) (n : Int), sizeN wide = i + d → acc.length + d < 140737488355328 → 0 ≤ n → n < 4294967296 →
    Ev (fun k => umpireref04_Seal.l0 k wide acc n (i : Int)) (acc ++ leb n d) := by
  have h4 := sizeN_le wide
  induction d with
  | zero =>
    intro i acc n hs ha hn hn1
    refine Ev.step (f := fun _ => some (acc ++ leb n 0)) (fun k => ?_) (Ev.now _)
    rw [umpireref04_Seal.l0, rsize_nat, Option.bind_some, if_neg (by omega)]
    simp [leb]
  | succ d ih =>
    intro i acc n hs ha hn hn1
    have next := ih (i + 1) (acc ++ [n % 256]) (n / 256) (by omega) (by simp; omega) (by omega) (by omega)
    rw [List.append_assoc] at next
    refine Ev.step (fun k => ?_) next
    have e1 : Int.tmod n 256 % 256 = n % 256 := by
      rw [Int.tmod_eq_emod_of_nonneg hn]
      omega
    have e2 : Int.tdiv n 256 % 4294967296 = n / 256 := by
      rw [Int.tdiv_eq_ediv_of_nonneg hn]
      omega
    rw [umpireref04_Seal.l0, rsize_nat, Option.bind_some, if_pos (by omega), if_pos (by omega), e1, e2, w64 (by omega) (by omega)]
    rfl
theorem rseal_spec (l : List Int) (wide : Bool) (hl : Bytes l) (hn : l.length ≤ 100000) : Ev (fun k => umpireref04_Seal.f k l wide) (sealv l wide) := by
  have h4 := sizeN_le wide
  have h := rseal_loop wide (sizeN wide) 0 l (ofN l wide : Int) (by omega) (by omega) (by omega) (by have := lt32 (of_lt l wide hl); omega)
  unfold umpireref04_Seal.f
  simp only [List.length_nil, Nat.zero_add, List.nil_append, show l.length < 140737488355328 by omega, if_true]
  exact Ev.bind (rof_spec l wide hl hn) h
theorem ropen_spec (l : List Int) (wide : Bool) (hl : Bytes l) (hn : l.length ≤ 100000) : Ev (fun k => umpireref04_Open.f k l wide) (openv l wide) := by
  have h4 := sizeN_le wide
  unfold umpireref04_Open.f
  rw [rsize_nat]
  simp only [Option.bind_some]
  rw [w64 (by omega) (by omega)]
  by_cases hs : sizeN wide ≤ l.length
  · have e : ((l.length : Int) - (sizeN wide : Int)).toNat = l.length - sizeN wide := by omega
    simp only [e, show ¬ ((l.length : Int) - (sizeN wide : Int) < 0) by omega, show (0 : Int) ≤ (l.length : Int) - (sizeN wide : Int) by omega, show (l.length : Int) - (sizeN wide : Int) ≤ (l.length : Int) by omega, if_true, if_false]
    refine Ev.bind (rseal_spec (l.take (l.length - sizeN wide)) wide (hl.take _) (by rw [List.length_take]; omega)) ?_
    have g := goodv_iff l wide hl hs
    have i := strOf_iff (sealv_bytes (hl.take (l.length - sizeN wide)) wide) hl
    unfold openv
    by_cases c : goodv l wide = true
    · rw [if_pos (i.2 (g.1 c)), if_pos c, if_pos (by rw [List.length_nil, List.length_take]; omega), List.nil_append]
      exact Ev.now _
    · rw [if_neg (fun h => c (g.2 (i.1 h))), if_neg c]
      exact Ev.now _
  · simp only [show ((l.length : Int) - (sizeN wide : Int) < 0) by omega, if_true]
    unfold openv goodv
    simp only [hs, decide_false, Bool.false_and, Bool.false_eq_true, if_false]
    exact Ev.now _
end Go.Proofs.Ytgnonglkibhnhaa.Q

/- Rows of rows, told by lists: the parts of what is joined. -/
namespace Go.Proofs.Ytgnonglkibhnhaa.Q
open Go.RowKit Go.Proofs.Ytgnonglkibhnhaa.Print Go.Proofs.YtgnonglkibhnhaaW.PrintWords Go.Proofs.YtgnonglkibhnhaaW.PrintLast Go.Proofs.YtgnonglkibhnhaaW.PrintMore

theorem rdL_get (l : List (List Int)) (i : Nat) (h : i < l.length) : rd_L1 l (i : Int) = l[i] := by
  unfold rd_L1
  rw [Int.toNat_natCast, List.getD_eq_getElem?_getD, List.getElem?_eq_getElem h]
  rfl
theorem flat_next (l : List (List Int)) (i : Nat) (h : i < l.length) : (l.take (i + 1)).flatten = (l.take i).flatten ++ l[i] := by
  rw [List.take_succ_eq_append_getElem h, List.flatten_append]
  simp
theorem flat_split (l : List (List Int)) (i : Nat) (h : i < l.length) : l.flatten = (l.take i).flatten ++ (l[i] ++ (l.drop (i + 1)).flatten) := by
  conv => lhs; rw [← List.take_append_drop i l, List.drop_eq_getElem_cons h]
  rw [List.flatten_append, List.flatten_cons]
theorem flat_take_le (l : List (List Int)) (i : Nat) : (l.take i).flatten.length ≤ l.flatten.length := by
  conv => rhs; rw [← List.take_append_drop i l, List.flatten_append, List.length_append]
  omega
theorem flat_all (l : List (List Int)) (i : Nat) (h : i = l.length) : (l.take i).flatten = l.flatten := by
  rw [List.take_of_length_le (by omega)]
theorem flat_len {l : List (List Int)} {n : Nat} (h : ∀ x ∈ l, x.length ≤ n) : l.flatten.length ≤ l.length * n := by
  induction l with
  | nil => simp
  | cons a l ih =>
    have h1 := h a (List.mem_cons_self ..)
    have h2 := ih fun x hx => h x (List.mem_cons_of_mem _ hx)
    rw [List.flatten_cons, List.length_append, List.length_cons, Nat.succ_mul]
    omega
end Go.Proofs.Ytgnonglkibhnhaa.Q

/- Few bodies, and their frames in a row, told by lists; the same of the reference. -/
namespace Go.Proofs.Ytgnonglkibhnhaa.Q
open Go.RowKit Go.Proofs.Ytgnonglkibhnhaa.Print Go.Proofs.YtgnonglkibhnhaaW.PrintWords Go.Proofs.YtgnonglkibhnhaaW.PrintLast Go.Proofs.YtgnonglkibhnhaaW.PrintMore
set_option linter.unusedVariables false
set_option linter.unusedSimpArgs false

theorem few_loop (l : List (List Int)) : ∀ (d i : Nat) (n : Int), l.length - i = d → i ≤ l.length → 0 ≤ n → n ≤ 100000 * i → ∃ b : Bool, Ev (fun k => umpireref07_Few.l0 k l n (i : Int)) b ∧ (b = true → l.length ≤ 50 ∧ n ≤ 70000 ∧ ∀ (j : Nat) (h : j < l.length), i ≤ j → l[j].length ≤ 70000) := by
  intro d
  induction d with
  | zero =>
    intro i n hd hi h0 hn
    by_cases a : (l.length : Int) ≤ 50
    · refine ⟨decide (n ≤ 70000), Ev.step (f := fun _ => some (decide (n ≤ 70000))) (fun k => ?_) (Ev.now _), fun h => ⟨by omega, of_decide_eq_true h, fun j hj hij => by omega⟩⟩
      rw [umpireref07_Few.l0, if_neg (by omega), if_pos a]
    · refine ⟨false, Ev.step (f := fun _ => some false) (fun k => ?_) (Ev.now _), fun h => by cases h⟩
      rw [umpireref07_Few.l0, if_neg (by omega), if_neg a]
  | succ d ih =>
    intro i n hd hi h0 hn
    have hlt : i < l.length := by omega
    by_cases c : i < 100
    · have hm : 0 ≤ mn ((l[i].length : Int)) 100000 ∧ mn ((l[i].length : Int)) 100000 ≤ 100000 ∧ (mn ((l[i].length : Int)) 100000 ≤ 70000 → l[i].length ≤ 70000) := by
        unfold mn
        split <;> omega
      obtain ⟨b, hb, hc⟩ := ih (i + 1) (n + mn ((l[i].length : Int)) 100000) (by omega) (by omega) (by omega) (by omega)
      refine ⟨b, Ev.step (fun k => ?_) hb, fun h => ?_⟩
      · rw [umpireref07_Few.l0, if_pos (by omega), if_pos (by omega), if_pos (by omega), rdL_get l i hlt, w64 (by omega) (by omega), w64 (by omega) (by omega)]
        rfl
      · obtain ⟨h1, h2, h3⟩ := hc h
        refine ⟨h1, by omega, fun j hj hij => ?_⟩
        by_cases e : j = i
        · subst e
          exact hm.2.2 (by omega)
        · exact h3 j hj (by omega)
    · by_cases a : (l.length : Int) ≤ 50
      · omega
      · refine ⟨false, Ev.step (f := fun _ => some false) (fun k => ?_) (Ev.now _), fun h => by cases h⟩
        rw [umpireref07_Few.l0, if_pos (by omega), if_neg (by omega), if_neg a]
theorem few_spec (l : List (List Int)) : ∃ b : Bool, Ev (fun k => umpireref07_Few.f k l) b ∧ (b = true → l.length ≤ 50 ∧ ∀ x ∈ l, x.length ≤ 70000) := by
  obtain ⟨b, hb, hc⟩ := few_loop l l.length 0 0 (by omega) (by omega) (by omega) (by omega)
  refine ⟨b, hb, fun h => ⟨(hc h).1, fun x hx => ?_⟩⟩
  obtain ⟨j, hj, rfl⟩ := List.getElem_of_mem hx
  exact (hc h).2.2 j hj (by omega)
/-- A body's frame, without the flag ahead. -/
def framev (m : Int) (wide : Bool) (x : List Int) : List Int := stuffv (sealv x wide) m ++ [126]
theorem framev_len (m : Int) (wide : Bool) (x : List Int) (h : x.length ≤ 70000) : (framev m wide x).length ≤ 140009 := by
  unfold framev
  have h1 := (stuffv_len (sealv x wide) m).2
  have h2 := sizeN_le wide
  rw [sealv_length] at h1
  rw [List.length_append, List.length_singleton]
  omega
/-- The frames of a row, from some bytes on. -/
def rowgo (m : Int) (wide : Bool) : List Int → List (List Int) → List Int × Int
  | acc, [] => (acc, 0)
  | acc, x :: t => if (x.length : Int) < 2 then ([], 1) else if (x.length : Int) > 65535 then ([], 4) else rowgo m wide (acc ++ framev m wide x) t
def rowv (m : Int) (wide : Bool) (l : List (List Int)) : List Int × Int := rowgo m wide [126] l
theorem row_loop (m : Int) (wide : Bool) (h0 : 0 ≤ m) (h1 : m < 4294967296) (l : List (List Int)) (hb : ∀ x ∈ l, Bytes x) (hn : l.length ≤ 50) (hx : ∀ x ∈ l, x.length ≤ 70000) : ∀ (d i : Nat) (acc : List Int), l.length - i = d → i ≤ l.length → acc.length ≤ 1 + 150000 * i →
    Ev (fun k => frame_Row.l0 k m wide acc l (l.length : Int) (i : Int)) (rowgo m wide acc (l.drop i)) := by
  intro d
  induction d with
  | zero =>
    intro i acc hd hi ha
    rw [List.drop_eq_nil_of_le (by omega)]
    refine Ev.step (f := fun _ => some (acc, 0)) (fun k => ?_) (Ev.now _)
    rw [frame_Row.l0, if_neg (by omega)]
  | succ d ih =>
    intro i acc hd hi ha
    have hlt : i < l.length := by omega
    have hbi := hb l[i] (List.getElem_mem hlt)
    have hxi := hx l[i] (List.getElem_mem hlt)
    rw [List.drop_eq_getElem_cons hlt, rowgo]
    by_cases a : (l[i].length : Int) < 2
    · rw [if_pos a]
      refine Ev.step (f := fun _ => some ([], 1)) (fun k => ?_) (Ev.now _)
      rw [frame_Row.l0, if_pos (by omega), if_pos (by omega), if_pos (by omega), rdL_get l i hlt, if_pos a]
    · rw [if_neg a]
      by_cases b : (l[i].length : Int) > 65535
      · rw [if_pos b]
        refine Ev.step (f := fun _ => some ([], 4)) (fun k => ?_) (Ev.now _)
        rw [frame_Row.l0, if_pos (by omega), if_pos (by omega), if_pos (by omega), rdL_get l i hlt, if_neg a, if_pos b]
      · rw [if_neg b]
        have hz := sizeN_le wide
        have hfl := framev_len m wide l[i] hxi
        have hlen : (sealv l[i] wide).length < 70368744177664 := by rw [sealv_length]; omega
        refine Ev.step (f := fun k => (fcs_Seal.f k l[i] wide).bind fun t => (stuff_Stuff.f t m).bind fun u => (slices_Concat_byte_byte.f [acc, u, [126]]).bind fun z => frame_Row.l0 k m wide z l (l.length : Int) (wrap64 ((i : Int) + 1))) (fun k => ?_) ?_
        · rw [frame_Row.l0, if_pos (by omega), if_pos (by omega), if_pos (by omega), rdL_get l i hlt, if_neg a, if_neg b]
        · refine Ev.bind (seal_spec l[i] wide hbi (by omega)) ?_
          have e : slices_Concat_byte_byte.f [acc, stuffv (sealv l[i] wide) m, [126]] = some (acc ++ framev m wide l[i]) := by
            have e1 : [acc, stuffv (sealv l[i] wide) m, [126]].flatten = acc ++ framev m wide l[i] := by simp [framev]
            unfold slices_Concat_byte_byte.f
            rw [e1, if_pos (by rw [List.length_append]; omega)]
          have next := ih (i + 1) (acc ++ framev m wide l[i]) (by omega) (by omega) (by rw [List.length_append]; omega)
          have e2 : wrap64 ((i : Int) + 1) = ((i + 1 : Nat) : Int) := w64 (by omega) (by omega)
          refine Ev.congr (f := fun k => frame_Row.l0 k m wide (acc ++ framev m wide l[i]) l (l.length : Int) ((i + 1 : Nat) : Int)) (fun k => ?_) next
          rw [stuff_spec _ m (sealv_bytes hbi wide) h0 h1 hlen, Option.bind_some, e, Option.bind_some, e2]
theorem row_spec (m : Int) (wide : Bool) (h0 : 0 ≤ m) (h1 : m < 4294967296) (l : List (List Int)) (hb : ∀ x ∈ l, Bytes x) (hn : l.length ≤ 50) (hx : ∀ x ∈ l, x.length ≤ 70000) : Ev (fun k => frame_Row.f k l m wide) (rowv m wide l) := row_loop m wide h0 h1 l hb hn hx l.length 0 [126] (by omega) (by omega) (by simp)
theorem put_spec_f (m : Int) (wide : Bool) (h0 : 0 ≤ m) (h1 : m < 4294967296) (x : List Int) (hb : Bytes x) (hx : x.length ≤ 70000) : Ev (fun k => frame_Put.f k x m wide) (rowv m wide [x]) := by
  have h := row_spec m wide h0 h1 [x] (fun y hy => by rw [List.mem_singleton.1 hy]; exact hb) (by simp) (fun y hy => by rw [List.mem_singleton.1 hy]; exact hx)
  generalize rowv m wide [x] = r at h ⊢
  obtain ⟨r1, r2⟩ := r
  unfold frame_Put.f
  exact Ev.bind h (Ev.now _)
theorem rrow_loop (m : Int) (wide : Bool) (h0 : 0 ≤ m) (h1 : m < 4294967296) (l : List (List Int)) (hb : ∀ x ∈ l, Bytes x) (hn : l.length ≤ 50) (hx : ∀ x ∈ l, x.length ≤ 70000) : ∀ (d i : Nat) (acc : List Int), l.length - i = d → i ≤ l.length → acc.length ≤ 1 + 150000 * i →
    Ev (fun k => umpireref07_Row.l0 k l m wide acc (i : Int)) (rowgo m wide acc (l.drop i)) := by
  intro d
  induction d with
  | zero =>
    intro i acc hd hi ha
    rw [List.drop_eq_nil_of_le (by omega)]
    refine Ev.step (f := fun _ => some (acc, 0)) (fun k => ?_) (Ev.now _)
    rw [umpireref07_Row.l0, if_neg (by omega)]
  | succ d ih =>
    intro i acc hd hi ha
    have hlt : i < l.length := by omega
    have hbi := hb l[i] (List.getElem_mem hlt)
    have hxi := hx l[i] (List.getElem_mem hlt)
    rw [List.drop_eq_getElem_cons hlt, rowgo]
    by_cases a : (l[i].length : Int) < 2
    · rw [if_pos a]
      refine Ev.step (f := fun _ => some ([], 1)) (fun k => ?_) (Ev.now _)
      rw [umpireref07_Row.l0, if_pos (by omega), if_pos (by omega), rdL_get l i hlt, if_pos a]
    · rw [if_neg a]
      by_cases b : (l[i].length : Int) > 65535
      · rw [if_pos b]
        refine Ev.step (f := fun _ => some ([], 4)) (fun k => ?_) (Ev.now _)
        rw [umpireref07_Row.l0, if_pos (by omega), if_pos (by omega), rdL_get l i hlt, if_neg a, if_pos b]
      · rw [if_neg b]
        have hz := sizeN_le wide
        have hfl := framev_len m wide l[i] hxi
        have hlen : (sealv l[i] wide).length < 35184372088832 := by rw [sealv_length]; omega
        have hfl2 : (stuffv (sealv l[i] wide) m).length ≤ 140009 := by unfold framev at hfl; rw [List.length_append] at hfl; omega
        have k1 : acc.length + (stuffv (sealv l[i] wide) m).length < 140737488355328 := by omega
        have k2 : (acc ++ stuffv (sealv l[i] wide) m).length < 140737488355328 := by rw [List.length_append]; exact k1
        have e3 : acc ++ stuffv (sealv l[i] wide) m ++ [126] = acc ++ framev m wide l[i] := by simp [framev]
        have next := ih (i + 1) (acc ++ framev m wide l[i]) (by omega) (by omega) (by rw [List.length_append]; omega)
        have g1 : ((i : Nat) : Int) < ((l.length : Nat) : Int) := by omega
        have g2 : (0 : Int) ≤ ((i : Nat) : Int) := by omega
        have g3 : l[i].length ≤ 100000 := by omega
        have e2 : wrap64 ((i : Int) + 1) = ((i + 1 : Nat) : Int) := w64 (by omega) (by omega)
        refine Ev.step (f := fun k => (umpireref04_Seal.f k l[i] wide).bind fun t => (umpireref06_Stuff.f k t m).bind fun u => if acc.length + u.length < 140737488355328 then ((some (acc ++ u : List Int)).bind fun y => if y.length < 140737488355328 then umpireref07_Row.l0 k l m wide (y ++ [126]) (wrap64 ((i : Int) + 1)) else none) else none) (fun k => ?_) ?_
        · rw [umpireref07_Row.l0, if_pos g1, if_pos g2, rdL_get l i hlt, if_neg a, if_neg b]
        · refine Ev.bind (rseal_spec l[i] wide hbi g3) (Ev.bind (rstuff_spec _ m (sealv_bytes hbi wide) h0 h1 hlen) ?_)
          refine Ev.congr (f := fun k => umpireref07_Row.l0 k l m wide (acc ++ framev m wide l[i]) ((i + 1 : Nat) : Int)) (fun k => ?_) next
          rw [if_pos k1, Option.bind_some, if_pos k2, e2, e3]
theorem rrow_spec (m : Int) (wide : Bool) (h0 : 0 ≤ m) (h1 : m < 4294967296) (l : List (List Int)) (hb : ∀ x ∈ l, Bytes x) (hn : l.length ≤ 50) (hx : ∀ x ∈ l, x.length ≤ 70000) : Ev (fun k => umpireref07_Row.f k l m wide) (rowv m wide l) := rrow_loop m wide h0 h1 l hb hn hx l.length 0 [126] (by omega) (by omega) (by simp)
end Go.Proofs.Ytgnonglkibhnhaa.Q

/- Bodies that are put come back. -/
namespace Go.Proofs.Ytgnonglkibhnhaa.Q
open Go.RowKit Go.Proofs.Ytgnonglkibhnhaa.Print Go.Proofs.YtgnonglkibhnhaaW.PrintWords Go.Proofs.YtgnonglkibhnhaaW.PrintLast Go.Proofs.YtgnonglkibhnhaaW.PrintMore
set_option linter.unusedVariables false
set_option linter.unusedSimpArgs false

theorem segs_skip : ∀ (a l : List Int), (∀ c ∈ a, c ≠ 126) → segs false [] (a ++ l) = segs false [] l
  | [], _, _ => rfl
  | c :: a, l, h => by
    rw [List.cons_append, segs, if_neg (h c (by simp))]
    exact segs_skip a l (fun x hx => h x (by simp [hx]))
theorem segs_in : ∀ (a h l : List Int), (∀ c ∈ a, c ≠ 126) → segs true h (a ++ 126 :: l) = (h ++ a) :: segs true [] l
  | [], h, l, _ => by rw [List.nil_append, segs, if_pos rfl, List.append_nil]
  | c :: a, h, l, hc => by
    rw [List.cons_append, segs, if_neg (hc c (by simp)), segs_in a (h ++ [c]) l (fun x hx => hc x (by simp [hx])), List.append_assoc, List.singleton_append]
theorem segs_flags : ∀ (q : Nat) (l : List Int), segs true [] (List.replicate q 126 ++ l) = List.replicate q [] ++ segs true [] l
  | 0, _ => rfl
  | q + 1, l => by
    rw [List.replicate_succ, List.cons_append, segs, if_pos rfl, segs_flags q l, List.replicate_succ, List.cons_append]
theorem tally_nil (m : Int) (wide : Bool) (s : DF) : tally m wide s [] = norm s := by
  unfold tally closev unstuffv
  simp [unst, norm]
theorem tally_nils (m : Int) (wide : Bool) : ∀ (q : Nat) (s : DF) (l : List (List Int)), (List.replicate q ([] : List Int) ++ l).foldl (tally m wide) (norm s) = l.foldl (tally m wide) (norm s)
  | 0, _, _ => rfl
  | q + 1, s, l => by
    rw [List.replicate_succ, List.cons_append, List.foldl_cons, tally_nil]
    exact tally_nils m wide q s l
theorem unstuff_stuff (m : Int) (x : List Int) (hb : Bytes x) : unstuffv (stuffv x m) m = (x, true) := back_of m m x (stuffv x m) hb (keep_all m m x hb (fun _ h => h))
def good (s : DF) (x : List Int) : DF := { s with tg := wrap64 (s.tg + 1), done := s.done ++ [x] }
theorem tally_good (m : Int) (wide : Bool) (s : DF) (x : List Int) (hb : Bytes x) (h2 : 2 ≤ x.length) (h3 : x.length ≤ 65535) : tally m wide s (stuffv (sealv x wide) m) = norm (good s x) := by
  have hz := sizeN_le wide
  have hl := sealv_length x wide
  have hd := size_df wide
  have c1 : ¬ (sealv x wide).length = 0 := by omega
  have c2 : ¬ ((sealv x wide).length : Int) < DF.size wide + 2 := by omega
  have c3 : ¬ ((sealv x wide).length : Int) > DF.size wide + 65535 := by omega
  unfold tally closev
  simp only [unstuff_stuff m _ (sealv_bytes hb wide), open_sealv x wide hb, c1, c2, c3, if_true, if_false]
  rfl
/-- Frames, each with its flag ahead and some behind. -/
def streamv (m : Int) (wide : Bool) (q : Nat) : List (List Int) → List Int
  | [] => []
  | x :: t => 126 :: (stuffv (sealv x wide) m ++ 126 :: (List.replicate q 126 ++ streamv m wide q t))
def goods (s : DF) (l : List (List Int)) : DF := l.foldl good s
theorem stream_fold (m : Int) (wide : Bool) (q : Nat) : ∀ (l : List (List Int)) (s : DF), (∀ x ∈ l, Bytes x ∧ 2 ≤ x.length ∧ x.length ≤ 65535) → (segs true [] (streamv m wide q l)).foldl (tally m wide) (norm s) = norm (goods s l)
  | [], s, _ => by
    rw [streamv, segs]
    rfl
  | x :: t, s, h => by
    obtain ⟨hb, h2, h3⟩ := h x (by simp)
    rw [streamv, segs, if_pos rfl, segs_in _ [] _ (fun c hc => (stuff_out m _ (sealv_bytes hb wide) c hc).1), segs_flags, List.nil_append, List.foldl_cons, tally_nil, List.foldl_cons, tally_good m wide _ x hb h2 h3]
    show (List.replicate q ([] : List Int) ++ segs true [] (streamv m wide q t)).foldl (tally m wide) (norm (good s x)) = _
    rw [tally_nils, stream_fold m wide q t (good s x) (fun y hy => h y (by simp [hy]))]
    rfl
theorem stream_first (m : Int) (wide : Bool) (q : Nat) (l : List (List Int)) (s : DF) (h : ∀ x ∈ l, Bytes x ∧ 2 ≤ x.length ∧ x.length ≤ 65535) : (segs false [] (streamv m wide q l)).foldl (tally m wide) (norm s) = norm (goods s l) := by
  cases l with
  | nil =>
    rw [streamv, segs]
    rfl
  | cons x t =>
    have e := stream_fold m wide q (x :: t) s h
    rw [streamv, segs, if_pos rfl, List.foldl_cons, tally_nil] at e
    rw [streamv, segs, if_pos rfl]
    exact e
theorem streamv_snoc (m : Int) (wide : Bool) (q : Nat) : ∀ (l : List (List Int)) (x : List Int), streamv m wide q (l ++ [x]) = streamv m wide q l ++ (126 :: framev m wide x) ++ List.replicate q 126
  | [], x => by simp [streamv, framev]
  | y :: t, x => by
    rw [List.cons_append, streamv, streamv, streamv_snoc m wide q t x]
    simp [List.append_assoc]
theorem goods_vals : ∀ (l : List (List Int)) (s : DF) (n : Nat), s.tg = (n : Int) → n + l.length ≤ 1000 → (goods s l).done = s.done ++ l ∧ (goods s l).tg = ((n + l.length : Nat) : Int) ∧ (goods s l).ta = s.ta ∧ (goods s l).ts = s.ts ∧ (goods s l).tl = s.tl ∧ (goods s l).tw = s.tw
  | [], s, n, h, _ => by
    refine ⟨by simp [goods], ?_, rfl, rfl, rfl, rfl⟩
    rw [List.length_nil, Nat.add_zero]
    exact h
  | x :: t, s, n, h, hn => by
    rw [List.length_cons] at hn
    have e : (good s x).tg = ((n + 1 : Nat) : Int) := by
      show wrap64 (s.tg + 1) = _
      rw [h]
      exact w64 (by omega) (by omega)
    have g := goods_vals t (good s x) (n + 1) e (by omega)
    refine ⟨?_, ?_, g.2.2.1, g.2.2.2.1, g.2.2.2.2.1, g.2.2.2.2.2⟩
    · show (goods (good s x) t).done = _
      rw [g.1]
      show (s.done ++ [x]) ++ t = _
      rw [List.append_assoc, List.singleton_append]
    · show (goods (good s x) t).tg = _
      rw [g.2.1, List.length_cons]
      congr 1
      omega
theorem all_of (m : Int) (wide : Bool) (b : List Int) (s : DF) (h : (segs false [] b).foldl (tally m wide) (norm DF.init) = norm s) : allv m wide b = (s.done, s.tg, s.ta, s.ts, s.tl, s.tw) := by
  have e := feedv_segs m wide b DF.init (fun _ => rfl)
  rw [show (segs DF.init.inn DF.init.held b) = segs false [] b from rfl, h] at e
  have f := congrArg (fun u : DF => (u.done, u.tg, u.ta, u.ts, u.tl, u.tw)) e
  exact f
theorem rowv_one (m : Int) (wide : Bool) (x : List Int) : rowv m wide [x] = if (x.length : Int) < 2 then ([], 1) else if (x.length : Int) > 65535 then ([], 4) else (126 :: framev m wide x, 0) := by
  unfold rowv
  rw [rowgo]
  rfl
theorem all_back (m : Int) (wide : Bool) (pre : List Int) (hp : ∀ c ∈ pre, c ≠ 126) (q : Nat) (l : List (List Int)) (hn : l.length ≤ 50) (h : ∀ x ∈ l, Bytes x ∧ 2 ≤ x.length ∧ x.length ≤ 65535) : allv m wide (pre ++ streamv m wide q l) = (l, (l.length : Int), 0, 0, 0, 0) := by
  have g := goods_vals l DF.init 0 rfl (by omega)
  have e := all_of m wide (pre ++ streamv m wide q l) (goods DF.init l) (by rw [segs_skip pre _ hp]; exact stream_first m wide q l DF.init h)
  rw [e, g.1, g.2.1, g.2.2.1, g.2.2.2.1, g.2.2.2.2.1, g.2.2.2.2.2]
  simp only [Nat.zero_add]
  rfl
end Go.Proofs.Ytgnonglkibhnhaa.Q

/- A frame whose check sequence is another one's; frames in a row, piece by piece. -/
namespace Go.Proofs.Ytgnonglkibhnhaa.Q
open Go.RowKit Go.Proofs.Ytgnonglkibhnhaa.Print Go.Proofs.YtgnonglkibhnhaaW.PrintWords Go.Proofs.YtgnonglkibhnhaaW.PrintLast Go.Proofs.YtgnonglkibhnhaaW.PrintMore
set_option linter.unusedVariables false
set_option linter.unusedSimpArgs false

def streamP : List (List Int) → List Int
  | [] => []
  | st :: t => 126 :: (st ++ 126 :: streamP t)
theorem streamP_snoc : ∀ (P : List (List Int)) (st : List Int), streamP (P ++ [st]) = streamP P ++ 126 :: (st ++ [126])
  | [], st => rfl
  | x :: t, st => by
    rw [List.cons_append, streamP, streamP, streamP_snoc t st]
    simp [List.append_assoc]
theorem streamP_bytes : ∀ (P : List (List Int)), (∀ st ∈ P, Bytes st) → Bytes (streamP P)
  | [], _ => Bytes.nil
  | st :: t, h => Bytes.cons ⟨by decide, by decide⟩ ((h st (by simp)).append (Bytes.cons ⟨by decide, by decide⟩ (streamP_bytes t (fun x hx => h x (by simp [hx])))))
theorem streamP_true (m : Int) (wide : Bool) : ∀ (P : List (List Int)) (s : DF), (∀ st ∈ P, ∀ c ∈ st, c ≠ 126) → (segs true [] (streamP P)).foldl (tally m wide) (norm s) = P.foldl (tally m wide) (norm s)
  | [], s, _ => by
    rw [streamP, segs]
  | st :: t, s, h => by
    rw [streamP, segs, if_pos rfl, segs_in st [] _ (h st (by simp)), List.nil_append, List.foldl_cons, tally_nil, List.foldl_cons, List.foldl_cons]
    exact streamP_true m wide t _ (fun x hx => h x (by simp [hx]))
theorem streamP_first (m : Int) (wide : Bool) (P : List (List Int)) (s : DF) (h : ∀ st ∈ P, ∀ c ∈ st, c ≠ 126) : (segs false [] (streamP P)).foldl (tally m wide) (norm s) = P.foldl (tally m wide) (norm s) := by
  cases P with
  | nil => rw [streamP, segs]
  | cons st t =>
    rw [streamP, segs, if_pos rfl, segs_in st [] _ (h st (by simp)), List.nil_append, List.foldl_cons, List.foldl_cons]
    exact streamP_true m wide t _ (fun x hx => h x (by simp [hx]))
/-- A body with another one's check sequence. -/
def spv (x bad : List Int) (wide : Bool) : List Int := x ++ leb (ofN bad wide : Int) (sizeN wide)
theorem spv_bytes {x : List Int} (h : Bytes x) (bad : List Int) (wide : Bool) : Bytes (spv x bad wide) := h.append (leb_bytes _ _)
theorem spv_length (x bad : List Int) (wide : Bool) : (spv x bad wide).length = x.length + sizeN wide := by
  have h := sealv_length bad wide
  unfold sealv at h
  rw [List.length_append] at h
  unfold spv
  rw [List.length_append]
  omega
theorem spv_bad (x bad : List Int) (wide : Bool) (hx : Bytes x) (hb : Bytes bad) (hne : ofN x wide ≠ ofN bad wide) : goodv (spv x bad wide) wide = false := by
  cases h : goodv (spv x bad wide) wide with
  | false => rfl
  | true =>
    exfalso
    have hl := spv_length x bad wide
    have e := (goodv_iff (spv x bad wide) wide (spv_bytes hx bad wide) (by omega)).1 h
    have ht : (spv x bad wide).take ((spv x bad wide).length - sizeN wide) = x := by
      rw [hl, Nat.add_sub_cancel]
      unfold spv
      rw [List.take_left]
    rw [ht] at e
    unfold sealv spv at e
    have e2 := List.append_cancel_left e
    have f1 := leN_leb (ofN x wide) (sizeN wide) (by rw [pow256_wid]; exact of_lt x wide hx)
    have f2 := leN_leb (ofN bad wide) (sizeN wide) (by rw [pow256_wid]; exact of_lt bad wide hb)
    rw [e2, f2] at f1
    exact hne f1.symm
theorem tally_bad (m : Int) (wide : Bool) (s : DF) (x bad : List Int) (hx : Bytes x) (hb : Bytes bad) (hne : ofN x wide ≠ ofN bad wide) (h2 : 2 ≤ x.length) (h3 : x.length ≤ 65535) : tally m wide s (stuffv (spv x bad wide) m) = norm { s with tw := wrap64 (s.tw + 1) } := by
  have hz := sizeN_le wide
  have hl := spv_length x bad wide
  have hd := size_df wide
  have c1 : ¬ (spv x bad wide).length = 0 := by omega
  have c2 : ¬ ((spv x bad wide).length : Int) < DF.size wide + 2 := by omega
  have c3 : ¬ ((spv x bad wide).length : Int) > DF.size wide + 65535 := by omega
  have c4 : openv (spv x bad wide) wide = ([], false) := by
    unfold openv
    rw [spv_bad x bad wide hx hb hne]
    rfl
  unfold tally closev
  simp only [unstuff_stuff m _ (spv_bytes hx bad wide), c4, c1, c2, c3, if_true, if_false]
  rfl
theorem xor_cancel {a b c : Nat} (h : a ^^^ c = b ^^^ c) : a = b := by
  have e := congrArg (fun z => z ^^^ c) h
  simp only [Nat.xor_assoc, Nat.xor_self, Nat.xor_zero] at e
  exact e
/-- Two texts that differ in their first two bytes have other check sequences. -/
theorem of_ne (a0 a1 b0 b1 : Int) (t : List Int) (wide : Bool) (ha0 : 0 ≤ a0 ∧ a0 < 256) (ha1 : 0 ≤ a1 ∧ a1 < 256) (hb0 : 0 ≤ b0 ∧ b0 < 256) (hb1 : 0 ≤ b1 ∧ b1 < 256) (hne : ¬ (a0 = b0 ∧ a1 = b1)) : ofN (a0 :: a1 :: t) wide ≠ ofN (b0 :: b1 :: t) wide := by
  intro e
  have hA : Bytes [a0, a1] := Bytes.cons ha0 (Bytes.cons ha1 Bytes.nil)
  have hB : Bytes [b0, b1] := Bytes.cons hb0 (Bytes.cons hb1 Bytes.nil)
  unfold ofN at e
  have e1 := xor_cancel e
  rw [moreN_eq, moreN_eq] at e1
  have hx : leN (a0 :: a1 :: t) = leN [a0, a1] ^^^ (leN t * 256 ^ [a0, a1].length) := leN_append [a0, a1] t
  have hy : leN (b0 :: b1 :: t) = leN [b0, b1] ^^^ (leN t * 256 ^ [b0, b1].length) := leN_append [b0, b1] t
  have hlen : 8 * (a0 :: a1 :: t).length = 8 * (b0 :: b1 :: t).length := rfl
  rw [hlen] at e1
  have s := Sn_xor (byN wide) (8 * (b0 :: b1 :: t).length) (allN wide ^^^ leN (a0 :: a1 :: t)) (allN wide ^^^ leN (b0 :: b1 :: t))
  rw [e1, Nat.xor_self] at s
  have d : (allN wide ^^^ leN (a0 :: a1 :: t)) ^^^ (allN wide ^^^ leN (b0 :: b1 :: t)) = leN [a0, a1] ^^^ leN [b0, b1] := by
    rw [hx, hy]
    show (allN wide ^^^ (leN [a0, a1] ^^^ (leN t * 256 ^ 2))) ^^^ (allN wide ^^^ (leN [b0, b1] ^^^ (leN t * 256 ^ 2))) = _
    generalize allN wide = r
    generalize leN t * 256 ^ 2 = u
    generalize leN [a0, a1] = p
    generalize leN [b0, b1] = q
    have z : (r ^^^ (p ^^^ u)) ^^^ (r ^^^ (q ^^^ u)) = (r ^^^ r) ^^^ ((u ^^^ u) ^^^ (p ^^^ q)) := by ac_rfl
    rw [z, Nat.xor_self, Nat.xor_self, Nat.zero_xor, Nat.zero_xor]
  rw [d] at s
  have l1 := leN_lt hA
  have l2 := leN_lt hB
  have hw : 16 ≤ wid wide := by cases wide <;> decide
  have hlt : leN [a0, a1] ^^^ leN [b0, b1] < 2 ^ wid wide := Nat.lt_of_lt_of_le (Nat.xor_lt_two_pow (n := 16) l1 l2) (Nat.pow_le_pow_right (by decide) hw)
  have z := Sn_inj0 (8 * (b0 :: b1 :: t).length) (byN_ge wide) (byN_lt wide) (by omega) hlt s
  have e3 := xor_zero_eq z
  have f1 := leb_leN hA
  have f2 := leb_leN hB
  rw [e3] at f1
  have f3 : [a0, a1] = [b0, b1] := f1.symm.trans f2
  injection f3 with g1 f3
  injection f3 with g2 _
  exact hne ⟨g1, g2⟩
theorem xor_byte (a c : Int) (ha : 0 ≤ a ∧ a < 256) (hc : 0 ≤ c ∧ c < 256) : (0 ≤ Go.bits .xor .u8 a c ∧ Go.bits .xor .u8 a c < 256) ∧ (a = Go.bits .xor .u8 a c → c = 0) := by
  obtain ⟨n, rfl⟩ := Int.eq_ofNat_of_zero_le ha.1
  obtain ⟨k, rfl⟩ := Int.eq_ofNat_of_zero_le hc.1
  have hn : n < 256 := by omega
  have hk : k < 256 := by omega
  have e := bits_u8_xor hn hk
  have hlt : n ^^^ k < 256 := Nat.xor_lt_two_pow (n := 8) hn hk
  refine ⟨by rw [e]; omega, fun h => ?_⟩
  rw [e] at h
  have h2 : n = n ^^^ k := Int.ofNat_inj.1 h
  have h3 := congrArg (fun z => n ^^^ z) h2
  simp only [← Nat.xor_assoc, Nat.xor_self, Nat.zero_xor] at h3
  omega
theorem spliced_spec (m : Int) (wide : Bool) (h0 : 0 ≤ m) (h1 : m < 4294967296) (x bad : List Int) (hx : Bytes x) (hb : Bytes bad) (hxl : x.length ≤ 70000) (hbl : bad.length ≤ 70000) : Ev (fun k => umpirelaw07_spliced.f k x bad m wide) (126 :: (stuffv (spv x bad wide) m ++ [126])) := by
  have hz := sizeN_le wide
  have hl := spv_length x bad wide
  have hs := (stuffv_len (spv x bad wide) m).2
  have hsl := sealv_length bad wide
  have hd : (sealv bad wide).drop (((bad.length : Nat) : Int)).toNat = leb (ofN bad wide : Int) (sizeN wide) := by
    rw [Int.toNat_natCast]
    unfold sealv
    rw [List.drop_left]
  have g1 : ([] : List Int).length + x.length < 140737488355328 := by rw [List.length_nil, Nat.zero_add]; omega
  have g2 : (0 : Int) ≤ ((bad.length : Nat) : Int) := by omega
  have g3 : ((bad.length : Nat) : Int) ≤ (((sealv bad wide).length : Nat) : Int) := by omega
  have g4 : x.length + (leb (ofN bad wide : Int) (sizeN wide)).length < 140737488355328 := by
    unfold spv at hl
    rw [List.length_append] at hl
    omega
  have g5 : ([126] : List Int).length + (stuffv (spv x bad wide) m).length < 140737488355328 := by rw [List.length_singleton]; omega
  have g6 : ([126] ++ stuffv (spv x bad wide) m).length < 140737488355328 := by rw [List.length_append]; exact g5
  have g7 : (spv x bad wide).length < 35184372088832 := by omega
  have h : Ev (fun k => umpireref07_Spliced.f k x bad m wide) (126 :: (stuffv (spv x bad wide) m ++ [126])) := by
    unfold umpireref07_Spliced.f
    refine Ev.bind (rseal_spec bad wide hb (by omega)) ?_
    refine Ev.congr (f := fun k => (umpireref06_Stuff.f k (spv x bad wide) m).bind fun t => if ([126] : List Int).length + t.length < 140737488355328 then ((some (([126] : List Int) ++ t : List Int)).bind fun y => if y.length < 140737488355328 then (some (y ++ [126])) else none) else none) (fun k => ?_) ?_
    · rw [if_pos g1, Option.bind_some, if_pos g2, if_pos g3, hd, Option.bind_some, List.nil_append, if_pos g4, Option.bind_some]
      rfl
    · refine Ev.bind (rstuff_spec _ m (spv_bytes hx bad wide) h0 h1 g7) (Ev.congr (f := fun _ => some (126 :: (stuffv (spv x bad wide) m ++ [126]))) (fun k => ?_) (Ev.now _))
      rw [if_pos g5, Option.bind_some, if_pos g6]
      rfl
  exact Ev.bind h (Ev.now _)
end Go.Proofs.Ytgnonglkibhnhaa.Q

/- The deframer's state does not hang on what is done; chunk behind chunk it comes to the same. -/
namespace Go.Proofs.Ytgnonglkibhnhaa.Q
open Go.RowKit Go.Proofs.Ytgnonglkibhnhaa.Print Go.Proofs.YtgnonglkibhnhaaW.PrintWords Go.Proofs.YtgnonglkibhnhaaW.PrintLast Go.Proofs.YtgnonglkibhnhaaW.PrintMore
set_option linter.unusedVariables false
set_option linter.unusedSimpArgs false

/-- s with rows done ahead. -/
def ahead (d : List (List Int)) (s : DF) : DF := { s with done := d ++ s.done }
theorem closev_ahead (m : Int) (wide : Bool) (d : List (List Int)) (s : DF) : closev m wide (ahead d s) = ahead d (closev m wide s) := by
  unfold closev ahead
  simp only []
  repeat' split
  all_goals simp_all
theorem stepv_ahead (m : Int) (wide : Bool) (d : List (List Int)) (s : DF) (c : Int) : stepv m wide (ahead d s) c = ahead d (stepv m wide s c) := by
  unfold stepv
  have hi : (ahead d s).inn = s.inn := rfl
  have hh : (ahead d s).held = s.held := rfl
  rw [hi, hh]
  by_cases a : s.inn = true
  · rw [if_pos a, if_pos a]
    by_cases b : c = 126
    · rw [if_pos b, if_pos b, closev_ahead]
      rfl
    · rw [if_neg b, if_neg b]
      rfl
  · rw [if_neg a, if_neg a]
    by_cases b : c = 126
    · rw [if_pos b, if_pos b]
      rfl
    · rw [if_neg b, if_neg b]
theorem feedv_ahead (m : Int) (wide : Bool) (d : List (List Int)) : ∀ (l : List Int) (s : DF), feedv m wide (ahead d s) l = ahead d (feedv m wide s l)
  | [], _ => rfl
  | c :: l, s => by rw [feedv_cons, feedv_cons, stepv_ahead, feedv_ahead m wide d l]
theorem bare_ahead (s : DF) : s = ahead s.done { s with done := [] } := by
  unfold ahead
  simp
/-- A state behind bytes, fed on with nothing done. -/
theorem feedv_more (m : Int) (wide : Bool) (a b : List Int) : feedv m wide DF.init (a ++ b) = ahead (feedv m wide DF.init a).done (feedv m wide { feedv m wide DF.init a with done := [] } b) := by
  rw [feedv_append]
  conv => lhs; rw [bare_ahead (feedv m wide DF.init a), feedv_ahead]
theorem feedv_held (m : Int) (wide : Bool) : ∀ (l : List Int) (s : DF), Bytes l → Bytes s.held → Bytes (feedv m wide s l).held ∧ (feedv m wide s l).held.length ≤ s.held.length + l.length ∧ (feedv m wide s l).done.length ≤ s.done.length + l.length
  | [], s, _, hs => ⟨hs, by simp [feedv_nil], by simp [feedv_nil]⟩
  | c :: l, s, hl, hs => by
    have hc := hl c (by simp)
    have ht : Bytes l := fun x hx => hl x (by simp [hx])
    have h := feedv_held m wide l (stepv m wide s c) ht (stepv_bytes hs hc)
    have h2 := stepv_held m wide s c
    rw [feedv_cons, List.length_cons]
    exact ⟨h.1, by omega, by omega⟩
/-- What a second part comes to. -/
def morev (m : Int) (wide : Bool) (a b : List Int) : (List (List Int)) × Int × Int × Int × Int × Int :=
  ((feedv m wide { feedv m wide DF.init a with done := [] } b).done, (feedv m wide DF.init (a ++ b)).tg, (feedv m wide DF.init (a ++ b)).ta, (feedv m wide DF.init (a ++ b)).ts, (feedv m wide DF.init (a ++ b)).tl, (feedv m wide DF.init (a ++ b)).tw)
theorem more_spec_f (m : Int) (wide : Bool) (a b : List Int) (h0 : 0 ≤ m) (h1 : m < 4294967296) (ha : Bytes a) (hb : Bytes b) (hl : a.length + b.length ≤ 1000000000) : Ev (fun k => frame_More.f k a b m wide) (morev m wide a b) := by
  have h := feedv_held m wide a DF.init ha Bytes.nil
  have hi : DF.init.held.length = 0 := rfl
  have hd : DF.init.done.length = 0 := rfl
  unfold frame_More.f
  refine Ev.bind (feed_spec m wide h0 h1 a DF.init ha Bytes.nil (by omega) (by omega)) ?_
  refine Ev.bind (feed_spec m wide h0 h1 b { feedv m wide DF.init a with done := [] } hb h.1 (by show (feedv m wide DF.init a).held.length + b.length ≤ _; omega) (by show 0 + b.length ≤ _; omega)) ?_
  unfold morev
  rw [feedv_more]
  exact Ev.now _
theorem morev_all (m : Int) (wide : Bool) (a b : List Int) : (feedv m wide DF.init a).done ++ (morev m wide a b).1 = (feedv m wide DF.init (a ++ b)).done := by
  unfold morev
  rw [feedv_more]
  rfl
theorem same_loop (l : List (List Int)) (hn : l.length ≤ 1000000000) : ∀ (d i : Nat), l.length - i = d → i ≤ l.length → Ev (fun k => umpireref07_Same.l0 k l l (i : Int)) true := by
  intro d
  induction d with
  | zero =>
    intro i hd hi
    refine Ev.step (f := fun _ => some true) (fun k => ?_) (Ev.now _)
    rw [umpireref07_Same.l0, if_neg (by omega)]
  | succ d ih =>
    intro i hd hi
    refine Ev.step (f := fun k => umpireref07_Same.l0 k l l ((i + 1 : Nat) : Int)) (fun k => ?_) (ih (i + 1) (by omega) (by omega))
    rw [umpireref07_Same.l0, if_pos (by omega), if_pos (by omega), if_pos (by omega), if_pos rfl, w64 (by omega) (by omega)]
    rfl
theorem same_spec (l : List (List Int)) (hn : l.length ≤ 1000000000) : Ev (fun k => umpireref07_Same.f k l l) true := by
  unfold umpireref07_Same.f
  simp only [if_true]
  exact same_loop l hn l.length 0 (by omega) (by omega)
end Go.Proofs.Ytgnonglkibhnhaa.Q

/- The anchor of the frame's laws. -/
namespace Go.Proofs.Ytgnonglkibhnhaa.Q
open Go.RowKit Go.Proofs.Ytgnonglkibhnhaa.Print Go.Proofs.YtgnonglkibhnhaaW.PrintWords Go.Proofs.YtgnonglkibhnhaaW.PrintLast Go.Proofs.YtgnonglkibhnhaaW.PrintMore
set_option linter.unusedVariables false
set_option linter.unusedSimpArgs false

theorem awake_frame : Ev (fun k => umpirelaw07_awake.f k) true := Ev.of (fun k => umpirelaw07_awake.mono k) (k := 60) (by decide +kernel)
end Go.Proofs.Ytgnonglkibhnhaa.Q

/- What came in as data, read as values: one lemma a kind. -/
namespace Go.Proofs.Ytgnonglkibhnhaa.Q
open Go Go.RowKit Go.ChangeShapes Go.WideShapes Go.Deep Go.Proofs.YtgnonglkibhnhaaW.PrintWords Go.Proofs.YtgnonglkibhnhaaW.PrintLast Go.Proofs.YtgnonglkibhnhaaW.PrintMore
set_option linter.unusedVariables false

/-- A datum of type t, read as a kind's value; Wf: what is told of it. -/
def Opens {α : Type} (P : Program) (t : TypeId) (d : Kd α) (Wf : α → Prop) : Prop :=
  ∀ (H : Type) (enc : TypeId × Value → H) (w : World) (base : Nat) (held : Bool) (fuel : Nat) (cs : List Value) (x : DataW H × List MemPlace),
    DataW.trod enc P w base (fun _ => true) held fuel t cs = some x → (x.1.weights P t).all (· ≤ reachBytes) = true → ∃ a, d.K w a cs ∧ Wf a

theorem Opens.imp {α : Type} {P : Program} {t : TypeId} {d : Kd α} {Wf Wf' : α → Prop} (h : Opens P t d Wf) (hi : ∀ a, Wf a → Wf' a) : Opens P t d Wf' := by
  intro H enc w base held fuel cs x hx hw
  obtain ⟨a, h1, h2⟩ := h H enc w base held fuel cs x hx hw
  exact ⟨a, h1, hi a h2⟩

theorem Opens.int {P : Program} {t : TypeId} {k : IntKind} (ht : P.underlying t = some (.int k)) : Opens P t (Kd.int k) (fun a => (Lit.int k a).wf = true) := by
  intro H enc w base held fuel cs x h _
  cases fuel with
  | zero => cases h
  | succ fuel =>
    match cs with
    | [.int k' n] =>
      simp only [DataW.trod, ht] at h
      by_cases hk : k' = k ∧ (Lit.int k n).wf = true
      · obtain ⟨rfl, hw⟩ := hk
        exact ⟨n, rfl, hw⟩
      · rw [if_neg hk] at h
        cases h
    | [] => simp [DataW.trod, ht] at h
    | v :: u :: r => simp [DataW.trod, ht] at h
    | [.bool _] => simp [DataW.trod, ht] at h
    | [.float _ _] => simp [DataW.trod, ht] at h
    | [.complex _ _ _] => simp [DataW.trod, ht] at h
    | [.string _] => simp [DataW.trod, ht] at h
    | [.pointer _] => simp [DataW.trod, ht] at h
    | [.slice _ _ _] => simp [DataW.trod, ht] at h
    | [.map _] => simp [DataW.trod, ht] at h
    | [.chan _] => simp [DataW.trod, ht] at h
    | [.func _ _ _] => simp [DataW.trod, ht] at h
    | [.nilFunc] => simp [DataW.trod, ht] at h
    | [.iface _ _] => simp [DataW.trod, ht] at h
    | [.nilIface] => simp [DataW.trod, ht] at h
    | [.agg _] => simp [DataW.trod, ht] at h
    | [.tuple _] => simp [DataW.trod, ht] at h

theorem Opens.bool {P : Program} {t : TypeId} (ht : P.underlying t = some .bool) : Opens P t Kd.bool (fun _ => True) := by
  intro H enc w base held fuel cs x h _
  cases fuel with
  | zero => cases h
  | succ fuel =>
    match cs with
    | [.bool b] => exact ⟨b, rfl, trivial⟩
    | [] => simp [DataW.trod, ht] at h
    | v :: u :: r => simp [DataW.trod, ht] at h
    | [.int _ _] => simp [DataW.trod, ht] at h
    | [.float _ _] => simp [DataW.trod, ht] at h
    | [.complex _ _ _] => simp [DataW.trod, ht] at h
    | [.string _] => simp [DataW.trod, ht] at h
    | [.pointer _] => simp [DataW.trod, ht] at h
    | [.slice _ _ _] => simp [DataW.trod, ht] at h
    | [.map _] => simp [DataW.trod, ht] at h
    | [.chan _] => simp [DataW.trod, ht] at h
    | [.func _ _ _] => simp [DataW.trod, ht] at h
    | [.nilFunc] => simp [DataW.trod, ht] at h
    | [.iface _ _] => simp [DataW.trod, ht] at h
    | [.nilIface] => simp [DataW.trod, ht] at h
    | [.agg _] => simp [DataW.trod, ht] at h
    | [.tuple _] => simp [DataW.trod, ht] at h

theorem Opens.string {P : Program} {t : TypeId} (ht : P.underlying t = some .string) : Opens P t Kd.string (fun s => s.size ≤ 140737488351232) := by
  intro H enc w base held fuel cs x h hw
  cases fuel with
  | zero => cases h
  | succ fuel =>
    match cs with
    | [.string s] =>
      simp only [DataW.trod, ht] at h
      by_cases hs : s.size ≤ maxLen
      · rw [if_pos hs] at h
        cases h
        refine ⟨s, rfl, ?_⟩
        simp [DataW.weights, reachBytes] at hw
        exact of_decide_eq_true hw
      · rw [if_neg hs] at h
        cases h
    | [] => simp [DataW.trod, ht] at h
    | v :: u :: r => simp [DataW.trod, ht] at h
    | [.int _ _] => simp [DataW.trod, ht] at h
    | [.float _ _] => simp [DataW.trod, ht] at h
    | [.complex _ _ _] => simp [DataW.trod, ht] at h
    | [.bool _] => simp [DataW.trod, ht] at h
    | [.pointer _] => simp [DataW.trod, ht] at h
    | [.slice _ _ _] => simp [DataW.trod, ht] at h
    | [.map _] => simp [DataW.trod, ht] at h
    | [.chan _] => simp [DataW.trod, ht] at h
    | [.func _ _ _] => simp [DataW.trod, ht] at h
    | [.nilFunc] => simp [DataW.trod, ht] at h
    | [.iface _ _] => simp [DataW.trod, ht] at h
    | [.nilIface] => simp [DataW.trod, ht] at h
    | [.agg _] => simp [DataW.trod, ht] at h
    | [.tuple _] => simp [DataW.trod, ht] at h

theorem add_add (a : Addr) (m i : Nat) : (a.add m).add i = a.add (m + i) := by
  unfold Addr.add
  by_cases hm : m = 0
  · subst hm
    simp
  · by_cases hi : i = 0
    · subst hi
      simp [hm]
    · simp [hm, hi, Nat.add_assoc]

theorem weightsAll_mem {H : Type} {P : Program} {e : TypeId} {l : List (DataW H)} (h : (DataW.weightsAll P e l).all (· ≤ reachBytes) = true) : ∀ x ∈ l, (x.weights P e).all (· ≤ reachBytes) = true := by
  induction l with
  | nil => intro x hx; cases hx
  | cons a l ih =>
    rw [DataW.weightsAll, List.all_append, Bool.and_eq_true] at h
    intro x hx
    rcases List.mem_cons.1 hx with rfl | hx
    · exact h.1
    · exact ih h.2 x hx

theorem list_of {α : Type} {p : Nat → α → Prop} : ∀ {n : Nat}, (∀ i, i < n → ∃ a, p i a) → ∃ l : List α, l.length = n ∧ ∀ i a, l[i]? = some a → p i a
  | 0, _ => ⟨[], rfl, fun i a h => by simp at h⟩
  | n + 1, h => by
    obtain ⟨l, hl, hp⟩ := list_of (n := n) (fun i hi => h i (by omega))
    obtain ⟨a, ha⟩ := h n (by omega)
    refine ⟨l ++ [a], by simp [hl], fun i b hb => ?_⟩
    by_cases hi : i < l.length
    · rw [List.getElem?_append_left hi] at hb
      exact hp i b hb
    · rw [List.getElem?_append_right (by omega)] at hb
      by_cases h0 : i - l.length = 0
      · rw [h0] at hb
        have e1 : i = n := by omega
        have e2 : a = b := by simpa using hb
        rw [e1, ← e2]
        exact ha
      · obtain ⟨m, hm⟩ : ∃ m, i - l.length = m + 1 := ⟨i - l.length - 1, by omega⟩
        rw [hm] at hb
        simp at hb

theorem Opens.slice {α : Type} {P : Program} {t e : TypeId} {d : Kd α} {Wf : α → Prop} {B : Nat} (ht : P.underlying t = some (.slice e)) (hc : P.cellsOf e = d.sz) (hB : P.bytesOf e = B) (h : Opens P e d Wf) :
    Opens P t (Kd.slice e d) (fun l => l.length * B ≤ 140737488351232 ∧ ∀ a ∈ l, Wf a) := by
  intro H enc w base held fuel cs x hx hw
  rcases open_slice ht hx with ⟨rfl, rfl⟩ | ⟨a, len, cap, m, n, D, Pl, rfl, hb, hl, hm, hmm, rfl, hel⟩
  · exact ⟨[], ⟨none, 0, rfl, Nat.le_refl _, rfl, Nat.zero_le _, fun h0 => absurd h0 (Nat.lt_irrefl 0)⟩, by simp, fun a ha => by cases ha⟩
  · simp only [if_true] at hmm
    subst hmm
    simp only [DataW.weights, ht, List.all_cons, Bool.and_eq_true, List.all_append] at hw
    obtain ⟨hw0, hw1, _⟩ := hw
    have hwe := weightsAll_mem hw1
    have each : ∀ i, i < len → ∃ a' : α, ∃ cs', w.cells? base (a.add (i * P.cellsOf e)) (P.cellsOf e) = some cs' ∧ d.K w a' cs' ∧ Wf a' := by
      intro i hi
      obtain ⟨cs', h1, h2⟩ := hel i (by omega)
      obtain ⟨a', h3, h4⟩ := h H enc w base held n cs' _ h2 (hwe _ (List.mem_map.2 ⟨i, List.mem_range.2 hi, rfl⟩))
      exact ⟨a', cs', h1, h3, h4⟩
    obtain ⟨V, hlV, hV⟩ := list_of each
    have hmax : maxLen = 9223372036854775807 := by decide
    refine ⟨V, ⟨some a, _, by rw [hlV], by omega, ?_⟩, ?_, ?_⟩
    · refine ⟨rfl, by omega, fun _ => ⟨a, rfl, fun j p hp => ?_⟩⟩
      obtain ⟨cs', h1, h2, _⟩ := hV j p hp
      refine ⟨cs', d.K_len h2, h2, fun i u hu => ?_⟩
      rw [hc] at h1
      obtain ⟨_, hlen, hcell⟩ := World.cells?_some h1
      have hi : i < d.sz := by
        have := (List.getElem?_eq_some_iff.1 hu).1
        rw [d.K_len h2] at this
        exact this
      have hci := hcell i hi
      rw [show a.add (j * d.sz + i) = (a.add (j * d.sz)).add i from (add_add a _ _).symm, hci]
      exact hu
    · simp only [List.length_map, List.length_range] at hw0
      simp only [hB, decide_eq_true_eq, reachBytes] at hw0
      refine Nat.le_trans (Nat.mul_le_mul_right _ ?_) hw0
      omega
    · intro a' ha'
      obtain ⟨i, hi, he⟩ := List.getElem_of_mem ha'
      obtain ⟨_, _, _, h4⟩ := hV i a' (by rw [List.getElem?_eq_getElem hi, he])
      exact h4

/-- Fields in line, from the cell 'off' on. -/
def OpensAll {α : Type} (P : Program) (off : Nat) (fs : List Field) (d : Kd α) (Wf : α → Prop) : Prop :=
  ∀ (H : Type) (enc : TypeId × Value → H) (w : World) (base : Nat) (held : Bool) (fuel : Nat) (cs : List Value) (xs : List (DataW H × List MemPlace)),
    (fs.mapM fun f => DataW.trod enc P w base (fun _ => true) held fuel f.type ((cs.drop f.offset).take (P.cellsOf f.type))) = some xs →
    (DataW.weightsEach P (fs.map (·.type)) (xs.map (·.1))).all (· ≤ reachBytes) = true → off + d.sz = cs.length → ∃ a, d.K w a (cs.drop off) ∧ Wf a

theorem OpensAll.one {α : Type} {P : Program} {off : Nat} {f : Field} {d : Kd α} {Wf : α → Prop} (hf : f.offset = off) (hc : P.cellsOf f.type = d.sz) (h : Opens P f.type d Wf) : OpensAll P off [f] d Wf := by
  intro H enc w base held fuel cs xs hx hw hl
  simp only [List.mapM_cons, List.mapM_nil, Option.bind_eq_bind, Option.pure_def, Option.bind_eq_some_iff, Option.some.injEq] at hx
  obtain ⟨x, hx, ys, rfl, rfl⟩ := hx
  rw [hf, hc, List.take_of_length_le (by rw [List.length_drop]; omega)] at hx
  simp only [List.map_cons, List.map_nil, DataW.weightsEach, List.append_nil] at hw
  exact h H enc w base held fuel _ x hx hw

theorem OpensAll.more {α β : Type} {P : Program} {off : Nat} {f : Field} {fs : List Field} {d : Kd α} {d' : Kd β} {Wf : α → Prop} {Wf' : β → Prop} (hf : f.offset = off) (hc : P.cellsOf f.type = d.sz) (h : Opens P f.type d Wf) (h' : OpensAll P (off + d.sz) fs d' Wf') :
    OpensAll P off (f :: fs) (Kd.pair d d') (fun a => Wf a.1 ∧ Wf' a.2) := by
  intro H enc w base held fuel cs xs hx hw hl
  simp only [List.mapM_cons, Option.bind_eq_bind, Option.pure_def, Option.bind_eq_some_iff, Option.some.injEq] at hx
  obtain ⟨x, hx, ys, hys, rfl⟩ := hx
  rw [hf, hc] at hx
  simp only [List.map_cons, DataW.weightsEach, List.all_append, Bool.and_eq_true] at hw
  have hl' : off + (d.sz + d'.sz) = cs.length := hl
  obtain ⟨a, h1, h2⟩ := h H enc w base held fuel _ x hx hw.1
  obtain ⟨b, h3, h4⟩ := h' H enc w base held fuel cs ys hys hw.2 (by omega)
  refine ⟨(a, b), ⟨(cs.drop off).take d.sz, cs.drop (off + d.sz), ?_, h1, h3⟩, h2, h4⟩
  rw [← List.drop_drop, List.take_append_drop]

theorem Opens.struct {α : Type} {P : Program} {t : TypeId} {fs : Array Field} {d : Kd α} {Wf : α → Prop} (ht : P.underlying t = some (.struct fs)) (hc : P.cellsOf t = d.sz) (h : OpensAll P 0 fs.toList d Wf) : Opens P t d Wf := by
  intro H enc w base held fuel cs x hx hw
  cases fuel with
  | zero => cases hx
  | succ fuel =>
    have hx' : (if cs.length = P.cellsOf t then (fs.toList.mapM fun f => DataW.trod enc P w base (fun _ => true) held fuel f.type ((cs.drop f.offset).take (P.cellsOf f.type))).map fun xs => (.agg (xs.map (·.1)), xs.flatMap (·.2)) else none) = some x := by
      simpa only [DataW.trod, ht] using hx
    by_cases hl : cs.length = P.cellsOf t
    · rw [if_pos hl, Option.map_eq_some_iff] at hx'
      obtain ⟨xs, hxs, rfl⟩ := hx'
      simp only [DataW.weights, ht] at hw
      have := h H enc w base held fuel cs xs hxs hw (by omega)
      simpa using this
    · rw [if_neg hl] at hx'
      cases hx'

theorem Opens.iso {α β : Type} {P : Program} {t : TypeId} {d : Kd α} {Wf : α → Prop} (f : β → α) (g : α → β) (hg : ∀ a, f (g a) = a) (h : Opens P t d Wf) : Opens P t (Kd.iso d f) (fun b => Wf (f b)) := by
  intro H enc w base held fuel cs x hx hw
  obtain ⟨a, h1, h2⟩ := h H enc w base held fuel cs x hx hw
  exact ⟨g a, show d.K w (f (g a)) cs by rw [hg]; exact h1, show Wf (f (g a)) by rw [hg]; exact h2⟩
end Go.Proofs.Ytgnonglkibhnhaa.Q
