/- Plain lemmas on numbers, bits and lists. -/
import Derived.Test.Ytnnehekodoakeaa0
namespace Go.Proofs.Ytnnehekodoakeaa.Q
open Go.RowKit Go.Proofs.YtnnehekodoakeaaW.PrintWords Go.Proofs.YtnnehekodoakeaaW.PrintLast Go.Proofs.YtnnehekodoakeaaW.PrintMore

/-! ### ranges -/
theorem wf_u8 {x : Int} (h : (Lit.int .u8 x).wf = true) : 0 ≤ x ∧ x < 256 := by
  simp [Lit.wf, IntKind.min, IntKind.max, IntKind.bits, IntKind.signed] at h; omega
theorem wf_u16 {x : Int} (h : (Lit.int .u16 x).wf = true) : 0 ≤ x ∧ x < 65536 := by
  simp [Lit.wf, IntKind.min, IntKind.max, IntKind.bits, IntKind.signed] at h; omega
theorem wf_u32 {x : Int} (h : (Lit.int .u32 x).wf = true) : 0 ≤ x ∧ x < 4294967296 := by
  simp [Lit.wf, IntKind.min, IntKind.max, IntKind.bits, IntKind.signed] at h; omega
theorem wf_u64 {x : Int} (h : (Lit.int .u64 x).wf = true) : 0 ≤ x ∧ x < 18446744073709551616 := by
  simp [Lit.wf, IntKind.min, IntKind.max, IntKind.bits, IntKind.signed] at h; omega
theorem wf_i64 {x : Int} (h : (Lit.int .i64 x).wf = true) : -9223372036854775808 ≤ x ∧ x ≤ 9223372036854775807 := by
  simp [Lit.wf, IntKind.min, IntKind.max, IntKind.bits, IntKind.signed] at h; omega
/-- All are bytes. -/
def Bytes (l : List Int) : Prop := ∀ x ∈ l, 0 ≤ x ∧ x < 256
theorem bytes_wf {l : List Int} (h : ∀ x ∈ l, (Lit.int .u8 x).wf = true) : Bytes l := fun x hx => wf_u8 (h x hx)
theorem Bytes.nil : Bytes [] := fun _ h => by cases h
theorem Bytes.cons {x : Int} {l : List Int} (hx : 0 ≤ x ∧ x < 256) (h : Bytes l) : Bytes (x :: l) := by
  intro y hy
  rcases List.mem_cons.1 hy with rfl | hy
  · exact hx
  · exact h y hy
theorem Bytes.append {a b : List Int} (ha : Bytes a) (hb : Bytes b) : Bytes (a ++ b) := fun x hx => (List.mem_append.1 hx).elim (ha x) (hb x)
theorem Bytes.left {a b : List Int} (h : Bytes (a ++ b)) : Bytes a := fun x hx => h x (List.mem_append_left _ hx)
theorem Bytes.right {a b : List Int} (h : Bytes (a ++ b)) : Bytes b := fun x hx => h x (List.mem_append_right _ hx)
theorem Bytes.take {a : List Int} (n : Nat) (h : Bytes a) : Bytes (a.take n) := fun x hx => h x (List.mem_of_mem_take hx)
theorem Bytes.drop {a : List Int} (n : Nat) (h : Bytes a) : Bytes (a.drop n) := fun x hx => h x (List.mem_of_mem_drop hx)
theorem Bytes.reverse {a : List Int} (h : Bytes a) : Bytes a.reverse := fun x hx => h x (List.mem_reverse.1 hx)
theorem Bytes.at {a : List Int} (h : Bytes a) (i : Int) : 0 ≤ rd a i ∧ rd a i < 256 := by
  unfold rd
  rw [List.getD_eq_getElem?_getD]
  rcases Nat.lt_or_ge i.toNat a.length with hi | hi
  · rw [List.getElem?_eq_getElem hi]
    exact h _ (List.getElem_mem hi)
  · rw [List.getElem?_eq_none hi]
    exact ⟨by decide, by decide⟩
theorem Bytes.get {a : List Int} (h : Bytes a) (i : Nat) (hi : i < a.length) : 0 ≤ a[i] ∧ a[i] < 256 := h _ (List.getElem_mem hi)
theorem rd_get {a : List Int} (i : Nat) (hi : i < a.length) : rd a (i : Int) = a[i] := by
  unfold rd
  rw [Int.toNat_natCast, List.getD_eq_getElem?_getD, List.getElem?_eq_getElem hi]
  rfl

/-! ### wraps -/
theorem w64 {x : Int} (h0 : -9223372036854775808 ≤ x) (h1 : x ≤ 9223372036854775807) : wrap64 x = x := by unfold wrap64; omega
theorem wu64 (x : Int) : IntKind.u64.wrap x = x % 18446744073709551616 := by simp [IntKind.wrap, IntKind.bits, IntKind.signed]
theorem wu64s {x : Int} (h0 : 0 ≤ x) (h1 : x < 18446744073709551616) : IntKind.u64.wrap x = x := by rw [wu64]; omega
theorem wu32 (x : Int) : IntKind.u32.wrap x = x % 4294967296 := by simp [IntKind.wrap, IntKind.bits, IntKind.signed]
theorem wu32s {x : Int} (h0 : 0 ≤ x) (h1 : x < 4294967296) : IntKind.u32.wrap x = x := by rw [wu32]; omega

/-! ### bits -/
theorem bits_u64_and {a b : Nat} (ha : a < 18446744073709551616) (hb : b < 18446744073709551616) : Go.bits .and .u64 (a : Int) (b : Int) = ((a &&& b : Nat) : Int) :=
  (bits_nat .u64 64 (by decide) (fun n h0 h1 => wu64s h0 (by simpa using h1)) a b (by simpa using ha) (by simpa using hb)).1
theorem bits_u64_or {a b : Nat} (ha : a < 18446744073709551616) (hb : b < 18446744073709551616) : Go.bits .or .u64 (a : Int) (b : Int) = ((a ||| b : Nat) : Int) :=
  (bits_nat .u64 64 (by decide) (fun n h0 h1 => wu64s h0 (by simpa using h1)) a b (by simpa using ha) (by simpa using hb)).2
theorem bits_u32_and {a b : Nat} (ha : a < 4294967296) (hb : b < 4294967296) : Go.bits .and .u32 (a : Int) (b : Int) = ((a &&& b : Nat) : Int) :=
  (bits_nat .u32 32 (by decide) (fun n h0 h1 => wu32s h0 (by simpa using h1)) a b (by simpa using ha) (by simpa using hb)).1
theorem bits_u32_or {a b : Nat} (ha : a < 4294967296) (hb : b < 4294967296) : Go.bits .or .u32 (a : Int) (b : Int) = ((a ||| b : Nat) : Int) :=
  (bits_nat .u32 32 (by decide) (fun n h0 h1 => wu32s h0 (by simpa using h1)) a b (by simpa using ha) (by simpa using hb)).2
theorem u64_or_low {x y : Int} {i : Nat} (hx0 : 0 ≤ x) (hx : x % 2 ^ i = 0) (hx1 : x < 18446744073709551616) (hy0 : 0 ≤ y) (hy : y < 2 ^ i) (hy1 : y < 18446744073709551616) : Go.bits .or .u64 x y = x + y :=
  bits_join .u64 64 (by decide) (fun n h0 h1 => wu64s h0 (by simpa using h1)) i x y hx0 hx (by simpa using hx1) hy0 hy (by simpa using hy1)
theorem u32_low {x : Int} (h0 : 0 ≤ x) (h1 : x < 4294967296) : Go.bits .and .u32 x 1 = x % 2 := by
  have := bits_mask .u32 32 (by decide) (fun n h0 h1 => wu32s h0 (by simpa using h1)) 1 (by decide) x h0 (by simpa using h1)
  simpa using this

/-! ### strings of bytes -/
theorem strOf_list (l : List Int) : (strOfNums l).toList = l.map fun n => UInt8.ofNat n.toNat := by
  rw [ByteArray.toList_eq, strOfNums_data]
theorem strOf_length (l : List Int) : (strOfNums l).toList.length = l.length := by rw [strOf_list, List.length_map]
theorem byte_inj {x y : Int} (hx : 0 ≤ x ∧ x < 256) (hy : 0 ≤ y ∧ y < 256) (h : UInt8.ofNat x.toNat = UInt8.ofNat y.toNat) : x = y := by
  have := congrArg UInt8.toNat h
  simp only [UInt8.toNat_ofNat'] at this
  omega
theorem strOf_inj {a b : List Int} (ha : Bytes a) (hb : Bytes b) (h : (strOfNums a).toList = (strOfNums b).toList) : a = b := by
  rw [strOf_list, strOf_list] at h
  induction a generalizing b with
  | nil =>
    cases b with
    | nil => rfl
    | cons y b => simp at h
  | cons x a ih =>
    cases b with
    | nil => simp at h
    | cons y b =>
      simp only [List.map_cons, List.cons.injEq] at h
      obtain rfl := byte_inj (ha x (by simp)) (hb y (by simp)) h.1
      rw [ih (fun z hz => ha z (List.mem_cons_of_mem _ hz)) (fun z hz => hb z (List.mem_cons_of_mem _ hz)) h.2]
theorem strOf_iff {a b : List Int} (ha : Bytes a) (hb : Bytes b) : ((strOfNums a).toList = (strOfNums b).toList) ↔ a = b := ⟨strOf_inj ha hb, fun h => by rw [h]⟩
theorem strOf_beq {a b : List Int} (ha : Bytes a) (hb : Bytes b) : ((strOfNums a).toList == (strOfNums b).toList) = (a == b) := by
  rw [Bool.eq_iff_iff, beq_iff_eq, beq_iff_eq, strOf_iff ha hb]

/-! ### rounds -/
theorem Ev.at {α : Type} {g : Nat → Option α} {r : α} {K : Nat} (h : ∀ k, K ≤ k → g k = some r) : Ev g r := ⟨K, h⟩
theorem Ev.const {α : Type} {g : Option α} {r : α} (h : g = some r) : Ev (fun _ => g) r := ⟨0, fun _ _ => h⟩
theorem succ_of {k n : Nat} (h : n < k) : ∃ m, k = m + 1 ∧ n ≤ m := ⟨k - 1, by omega, by omega⟩
theorem Ev.eq {α : Type} {g : Nat → Option α} {a b : α} (h1 : Ev g a) (h2 : Ev g b) : a = b := by
  obtain ⟨K, h1⟩ := h1
  obtain ⟨K', h2⟩ := h2
  have a1 := h1 (max K K') (by omega)
  have a2 := h2 (max K K') (by omega)
  rw [a1] at a2
  exact Option.some.inj a2

/-! ### numbers as bytes -/
/-- A number's s bytes, the lowest first. -/
def leb (n : Int) : Nat → List Int
  | 0 => []
  | s + 1 => n % 256 :: leb (n / 256) s
theorem leb_length (n : Int) (s : Nat) : (leb n s).length = s := by
  induction s generalizing n with
  | zero => rfl
  | succ s ih => simp [leb, ih]
theorem leb_bytes (n : Int) (s : Nat) : Bytes (leb n s) := by
  induction s generalizing n with
  | zero => exact Bytes.nil
  | succ s ih => exact Bytes.cons (by omega) (ih _)
theorem leb_get (n : Int) (s i : Nat) (h : i < (leb n s).length) : (leb n s)[i] = n / 256 ^ i % 256 := by
  induction s generalizing n i with
  | zero => simp [leb] at h
  | succ s ih =>
    cases i with
    | zero => simp [leb]
    | succ i =>
      simp only [leb, List.getElem_cons_succ]
      rw [ih, Int.pow_succ, Int.mul_comm, Int.ediv_ediv_of_nonneg (by decide)]
theorem leb_snoc (n : Int) (s : Nat) : leb n (s + 1) = leb n s ++ [n / 256 ^ s % 256] := by
  apply List.ext_getElem
  · simp [leb_length]
  · intro i h1 h2
    rw [leb_get]
    rw [leb_length] at h1
    rcases Nat.lt_or_ge i s with hi | hi
    · rw [List.getElem_append_left (by rw [leb_length]; exact hi), leb_get]
    · obtain rfl : i = s := by omega
      rw [List.getElem_append_right (by rw [leb_length]; exact Nat.le_refl _)]
      simp [leb_length]
/-- The number whose bytes these are, the highest first. -/
def beval (l : List Int) : Int := l.foldl (fun a b => a * 256 + b) 0
theorem beval_snoc (l : List Int) (x : Int) : beval (l ++ [x]) = beval l * 256 + x := by simp [beval]
theorem beval_nil : beval [] = 0 := rfl
theorem beval_range (l : List Int) (h : Bytes l) : 0 ≤ beval l ∧ beval l < 256 ^ l.length := by
  suffices ∀ r : List Int, Bytes r.reverse → 0 ≤ beval r.reverse ∧ beval r.reverse < 256 ^ r.length by
    have := this l.reverse (by rwa [List.reverse_reverse])
    rwa [List.reverse_reverse, List.length_reverse] at this
  intro r
  induction r with
  | nil => intro _; exact ⟨by decide, by decide⟩
  | cons x r ih =>
    intro hb
    rw [List.reverse_cons] at hb ⊢
    have h1 := ih hb.left
    have h2 := hb.right x (by simp)
    rw [beval_snoc, List.length_cons, Int.pow_succ]
    exact ⟨by omega, by omega⟩
theorem leb_beval (l : List Int) (h : Bytes l) : leb (beval l) l.length = l.reverse := by
  suffices ∀ r : List Int, Bytes r.reverse → leb (beval r.reverse) r.length = r by
    have := this l.reverse (by rwa [List.reverse_reverse])
    rwa [List.reverse_reverse, List.length_reverse] at this
  intro r
  induction r with
  | nil => intro _; rfl
  | cons x r ih =>
    intro hb
    rw [List.reverse_cons] at hb ⊢
    have h2 := hb.right x (by simp)
    rw [beval_snoc, List.length_cons, leb]
    rw [show (beval r.reverse * 256 + x) % 256 = x by omega, show (beval r.reverse * 256 + x) / 256 = beval r.reverse by omega, ih hb.left]
theorem beval_leb (n : Int) (s : Nat) (h0 : 0 ≤ n) (h1 : n < 256 ^ s) : beval (leb n s).reverse = n := by
  induction s generalizing n with
  | zero => simp at h1; simp [leb, beval]; omega
  | succ s ih =>
    rw [leb, List.reverse_cons, beval_snoc, ih (n / 256) (by omega) (by rw [Int.pow_succ] at h1; omega)]
    omega
/-- A number's bytes, in either order. -/
def putb (n : Int) (s : Nat) (big : Bool) : List Int := if big then (leb n s).reverse else leb n s
theorem putb_length (n : Int) (s : Nat) (big : Bool) : (putb n s big).length = s := by
  unfold putb; split <;> simp [leb_length]
theorem putb_bytes (n : Int) (s : Nat) (big : Bool) : Bytes (putb n s big) := by
  unfold putb; split
  · exact (leb_bytes n s).reverse
  · exact leb_bytes n s
/-- Bytes' number, in either order. -/
def getv (l : List Int) (big : Bool) : Int := beval (if big then l else l.reverse)
theorem getv_putb (n : Int) (s : Nat) (big : Bool) (h0 : 0 ≤ n) (h1 : n < 256 ^ s) : getv (putb n s big) big = n := by
  unfold getv putb
  cases big <;> simp [beval_leb n s h0 h1]
theorem putb_getv (l : List Int) (big : Bool) (h : Bytes l) : putb (getv l big) l.length big = l := by
  unfold getv putb
  cases big
  · have := leb_beval l.reverse h.reverse
    simpa using this
  · have := leb_beval l h
    simp [this]
theorem getv_range (l : List Int) (big : Bool) (h : Bytes l) : 0 ≤ getv l big ∧ getv l big < 256 ^ l.length := by
  unfold getv
  cases big
  · have := beval_range l.reverse h.reverse
    simpa using this
  · simpa using beval_range l h
theorem pow256_le {i j : Nat} (h : i ≤ j) : (256 : Int) ^ i ≤ 256 ^ j := by
  have h1 : ∀ k : Nat, (256 : Int) ^ k = ((256 ^ k : Nat) : Int) := fun k => (Int.natCast_pow 256 k).symm
  rw [h1, h1]
  exact Int.ofNat_le.2 (Nat.pow_le_pow_right (by decide) h)
theorem pow256_8 : (256 : Int) ^ 8 = 18446744073709551616 := by decide
theorem pow256_2 (i : Nat) : (256 : Int) ^ i = 2 ^ (8 * i) := by
  rw [show (256 : Int) = 2 ^ 8 from rfl, ← Int.pow_mul]
end Go.Proofs.Ytnnehekodoakeaa.Q
