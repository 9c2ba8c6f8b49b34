/- The plain texts that the law DumpJoin reaches, one behind the other. -/
import Derived.Test.YtnokndhppdkmdaaDoor0
import Derived.Test.YtnokndhppdkmdaaDoorF19
import Derived.Test.YtnokndhppdkmdaaDoorF23
import Derived.Test.YtnokndhppdkmdaaDoorF26
import Derived.Test.YtnokndhppdkmdaaDoorF11
import Derived.Test.YtnokndhppdkmdaaDoorF12
import Derived.Test.YtnokndhppdkmdaaDoorF10
import Derived.Test.YtnokndhppdkmdaaDoorF9
import Derived.Deep.Slices
import Derived.ChangeSlices
import Derived.SizedLaws
import Derived.Test.YtnokndhppdkmdaaDoorRows
import Derived.ProofKit
import Derived.LaidMore
import Derived.OpenShut
import Derived.Stop.Joined
import Derived.ChangeArms
/- Plain lemmas on numbers, bits and lists. -/
namespace Go.Proofs.YtnokndhppdkmdaaDoor.Q
open Go.RowKit Go.Proofs.YtnokndhppdkmdaaDoorW.PrintWords Go.Proofs.YtnokndhppdkmdaaDoorW.PrintLast Go.Proofs.YtnokndhppdkmdaaDoorW.PrintMore

/-! ### ranges -/
theorem wf_u8 {x : Int} (h : (Lit.int .u8 x).wf = true) : 0 ≤ x ∧ x < 256 := by
  simp [Lit.wf, IntKind.min, IntKind.max, IntKind.bits, IntKind.signed] at h; omega
theorem wf_u16 {x : Int} (h : (Lit.int .u16 x).wf = true) : 0 ≤ x ∧ x < 65536 := by
  simp [Lit.wf, IntKind.min, IntKind.max, IntKind.bits, IntKind.signed] at h; omega
theorem wf_u32 {x : Int} (h : (Lit.int .u32 x).wf = true) : 0 ≤ x ∧ x < 4294967296 := by
  simp [Lit.wf, IntKind.min, IntKind.max, IntKind.bits, IntKind.signed] at h; omega
theorem wf_u64 {x : Int} (h : (Lit.int .u64 x).wf = true) : 0 ≤ x ∧ x < 18446744073709551616 := by
  simp [Lit.wf, IntKind.min, IntKind.max, IntKind.bits, IntKind.signed] at h; omega
theorem wf_i64 {x : Int} (h : (Lit.int .i64 x).wf = true) : -9223372036854775808 ≤ x ∧ x ≤ 9223372036854775807 := by
  simp [Lit.wf, IntKind.min, IntKind.max, IntKind.bits, IntKind.signed] at h; omega
/-- All are bytes. -/
def Bytes (l : List Int) : Prop := ∀ x ∈ l, 0 ≤ x ∧ x < 256
theorem bytes_wf {l : List Int} (h : ∀ x ∈ l, (Lit.int .u8 x).wf = true) : Bytes l := fun x hx => wf_u8 (h x hx)
theorem Bytes.nil : Bytes [] := fun _ h => by cases h
theorem Bytes.cons {x : Int} {l : List Int} (hx : 0 ≤ x ∧ x < 256) (h : Bytes l) : Bytes (x :: l) := by
  intro y hy
  rcases List.mem_cons.1 hy with rfl | hy
  · exact hx
  · exact h y hy
theorem Bytes.append {a b : List Int} (ha : Bytes a) (hb : Bytes b) : Bytes (a ++ b) := fun x hx => (List.mem_append.1 hx).elim (ha x) (hb x)
theorem Bytes.left {a b : List Int} (h : Bytes (a ++ b)) : Bytes a := fun x hx => h x (List.mem_append_left _ hx)
theorem Bytes.right {a b : List Int} (h : Bytes (a ++ b)) : Bytes b := fun x hx => h x (List.mem_append_right _ hx)
theorem Bytes.take {a : List Int} (n : Nat) (h : Bytes a) : Bytes (a.take n) := fun x hx => h x (List.mem_of_mem_take hx)
theorem Bytes.drop {a : List Int} (n : Nat) (h : Bytes a) : Bytes (a.drop n) := fun x hx => h x (List.mem_of_mem_drop hx)
theorem Bytes.reverse {a : List Int} (h : Bytes a) : Bytes a.reverse := fun x hx => h x (List.mem_reverse.1 hx)
theorem Bytes.at {a : List Int} (h : Bytes a) (i : Int) : 0 ≤ rd a i ∧ rd a i < 256 := by
  unfold rd
  rw [List.getD_eq_getElem?_getD]
  rcases Nat.lt_or_ge i.toNat a.length with hi | hi
  · rw [List.getElem?_eq_getElem hi]
    exact h _ (List.getElem_mem hi)
  · rw [List.getElem?_eq_none hi]
    exact ⟨by decide, by decide⟩
theorem Bytes.get {a : List Int} (h : Bytes a) (i : Nat) (hi : i < a.length) : 0 ≤ a[i] ∧ a[i] < 256 := h _ (List.getElem_mem hi)
theorem rd_get {a : List Int} (i : Nat) (hi : i < a.length) : rd a (i : Int) = a[i] := by
  unfold rd
  rw [Int.toNat_natCast, List.getD_eq_getElem?_getD, List.getElem?_eq_getElem hi]
  rfl

/-! ### wraps -/
theorem w64 {x : Int} (h0 : -9223372036854775808 ≤ x) (h1 : x ≤ 9223372036854775807) : wrap64 x = x := by unfold wrap64; omega
theorem wu64 (x : Int) : IntKind.u64.wrap x = x % 18446744073709551616 := by simp [IntKind.wrap, IntKind.bits, IntKind.signed]
theorem wu64s {x : Int} (h0 : 0 ≤ x) (h1 : x < 18446744073709551616) : IntKind.u64.wrap x = x := by rw [wu64]; omega
theorem wu32 (x : Int) : IntKind.u32.wrap x = x % 4294967296 := by simp [IntKind.wrap, IntKind.bits, IntKind.signed]
theorem wu32s {x : Int} (h0 : 0 ≤ x) (h1 : x < 4294967296) : IntKind.u32.wrap x = x := by rw [wu32]; omega

/-! ### bits -/
theorem bits_u64_and {a b : Nat} (ha : a < 18446744073709551616) (hb : b < 18446744073709551616) : Go.bits .and .u64 (a : Int) (b : Int) = ((a &&& b : Nat) : Int) :=
  (bits_nat .u64 64 (by decide) (fun n h0 h1 => wu64s h0 (by simpa using h1)) a b (by simpa using ha) (by simpa using hb)).1
theorem bits_u64_or {a b : Nat} (ha : a < 18446744073709551616) (hb : b < 18446744073709551616) : Go.bits .or .u64 (a : Int) (b : Int) = ((a ||| b : Nat) : Int) :=
  (bits_nat .u64 64 (by decide) (fun n h0 h1 => wu64s h0 (by simpa using h1)) a b (by simpa using ha) (by simpa using hb)).2
theorem bits_u32_and {a b : Nat} (ha : a < 4294967296) (hb : b < 4294967296) : Go.bits .and .u32 (a : Int) (b : Int) = ((a &&& b : Nat) : Int) :=
  (bits_nat .u32 32 (by decide) (fun n h0 h1 => wu32s h0 (by simpa using h1)) a b (by simpa using ha) (by simpa using hb)).1
theorem bits_u32_or {a b : Nat} (ha : a < 4294967296) (hb : b < 4294967296) : Go.bits .or .u32 (a : Int) (b : Int) = ((a ||| b : Nat) : Int) :=
  (bits_nat .u32 32 (by decide) (fun n h0 h1 => wu32s h0 (by simpa using h1)) a b (by simpa using ha) (by simpa using hb)).2
theorem u64_or_low {x y : Int} {i : Nat} (hx0 : 0 ≤ x) (hx : x % 2 ^ i = 0) (hx1 : x < 18446744073709551616) (hy0 : 0 ≤ y) (hy : y < 2 ^ i) (hy1 : y < 18446744073709551616) : Go.bits .or .u64 x y = x + y :=
  bits_join .u64 64 (by decide) (fun n h0 h1 => wu64s h0 (by simpa using h1)) i x y hx0 hx (by simpa using hx1) hy0 hy (by simpa using hy1)
theorem u32_low {x : Int} (h0 : 0 ≤ x) (h1 : x < 4294967296) : Go.bits .and .u32 x 1 = x % 2 := by
  have := bits_mask .u32 32 (by decide) (fun n h0 h1 => wu32s h0 (by simpa using h1)) 1 (by decide) x h0 (by simpa using h1)
  simpa using this

/-! ### strings of bytes -/
theorem strOf_list (l : List Int) : (strOfNums l).toList = l.map fun n => UInt8.ofNat n.toNat := by
  rw [ByteArray.toList_eq, strOfNums_data]
theorem strOf_length (l : List Int) : (strOfNums l).toList.length = l.length := by rw [strOf_list, List.length_map]
theorem byte_inj {x y : Int} (hx : 0 ≤ x ∧ x < 256) (hy : 0 ≤ y ∧ y < 256) (h : UInt8.ofNat x.toNat = UInt8.ofNat y.toNat) : x = y := by
  have := congrArg UInt8.toNat h
  simp only [UInt8.toNat_ofNat'] at this
  omega
theorem strOf_inj {a b : List Int} (ha : Bytes a) (hb : Bytes b) (h : (strOfNums a).toList = (strOfNums b).toList) : a = b := by
  rw [strOf_list, strOf_list] at h
  induction a generalizing b with
  | nil =>
    cases b with
    | nil => rfl
    | cons y b => simp at h
  | cons x a ih =>
    cases b with
    | nil => simp at h
    | cons y b =>
      simp only [List.map_cons, List.cons.injEq] at h
      obtain rfl := byte_inj (ha x (by simp)) (hb y (by simp)) h.1
      rw [ih (fun z hz => ha z (List.mem_cons_of_mem _ hz)) (fun z hz => hb z (List.mem_cons_of_mem _ hz)) h.2]
theorem strOf_iff {a b : List Int} (ha : Bytes a) (hb : Bytes b) : ((strOfNums a).toList = (strOfNums b).toList) ↔ a = b := ⟨strOf_inj ha hb, fun h => by rw [h]⟩
theorem strOf_beq {a b : List Int} (ha : Bytes a) (hb : Bytes b) : ((strOfNums a).toList == (strOfNums b).toList) = (a == b) := by
  rw [Bool.eq_iff_iff, beq_iff_eq, beq_iff_eq, strOf_iff ha hb]

/-! ### rounds -/
theorem Ev.at {α : Type} {g : Nat → Option α} {r : α} {K : Nat} (h : ∀ k, K ≤ k → g k = some r) : Ev g r := ⟨K, h⟩
theorem Ev.const {α : Type} {g : Option α} {r : α} (h : g = some r) : Ev (fun _ => g) r := ⟨0, fun _ _ => h⟩
theorem succ_of {k n : Nat} (h : n < k) : ∃ m, k = m + 1 ∧ n ≤ m := ⟨k - 1, by omega, by omega⟩
theorem Ev.eq {α : Type} {g : Nat → Option α} {a b : α} (h1 : Ev g a) (h2 : Ev g b) : a = b := by
  obtain ⟨K, h1⟩ := h1
  obtain ⟨K', h2⟩ := h2
  have a1 := h1 (max K K') (by omega)
  have a2 := h2 (max K K') (by omega)
  rw [a1] at a2
  exact Option.some.inj a2

/-! ### numbers as bytes -/
/-- A number's s bytes, the lowest first. -/
def leb (n : Int) : Nat → List Int
  | 0 => []
  | s + 1 => n % 256 :: leb (n / 256) s
theorem leb_length (n : Int) (s : Nat) : (leb n s).length = s := by
  induction s generalizing n with
  | zero => rfl
  | succ s ih => simp [leb, ih]
theorem leb_bytes (n : Int) (s : Nat) : Bytes (leb n s) := by
  induction s generalizing n with
  | zero => exact Bytes.nil
  | succ s ih => exact Bytes.cons (by omega) (ih _)
theorem leb_get (n : Int) (s i : Nat) (h : i < (leb n s).length) : (leb n s)[i] = n / 256 ^ i % 256 := by
  induction s generalizing n i with
  | zero => simp [leb] at h
  | succ s ih =>
    cases i with
    | zero => simp [leb]
    | succ i =>
      simp only [leb, List.getElem_cons_succ]
      rw [ih, Int.pow_succ, Int.mul_comm, Int.ediv_ediv_of_nonneg (by decide)]
theorem leb_snoc (n : Int) (s : Nat) : leb n (s + 1) = leb n s ++ [n / 256 ^ s % 256] := by
  apply List.ext_getElem
  · simp [leb_length]
  · intro i h1 h2
    rw [leb_get]
    rw [leb_length] at h1
    rcases Nat.lt_or_ge i s with hi | hi
    · rw [List.getElem_append_left (by rw [leb_length]; exact hi), leb_get]
    · obtain rfl : i = s := by omega
      rw [List.getElem_append_right (by rw [leb_length]; exact Nat.le_refl _)]
      simp [leb_length]
/-- The number whose bytes these are, the highest first. -/
def beval (l : List Int) : Int := l.foldl (fun a b => a * 256 + b) 0
theorem beval_snoc (l : List Int) (x : Int) : beval (l ++ [x]) = beval l * 256 + x := by simp [beval]
theorem beval_nil : beval [] = 0 := rfl
theorem beval_range (l : List Int) (h : Bytes l) : 0 ≤ beval l ∧ beval l < 256 ^ l.length := by
  suffices ∀ r : List Int, Bytes r.reverse → 0 ≤ beval r.reverse ∧ beval r.reverse < 256 ^ r.length by
    have := this l.reverse (by rwa [List.reverse_reverse])
    rwa [List.reverse_reverse, List.length_reverse] at this
  intro r
  induction r with
  | nil => intro _; exact ⟨by decide, by decide⟩
  | cons x r ih =>
    intro hb
    rw [List.reverse_cons] at hb ⊢
    have h1 := ih hb.left
    have h2 := hb.right x (by simp)
    rw [beval_snoc, List.length_cons, Int.pow_succ]
    exact ⟨by omega, by omega⟩
theorem leb_beval (l : List Int) (h : Bytes l) : leb (beval l) l.length = l.reverse := by
  suffices ∀ r : List Int, Bytes r.reverse → leb (beval r.reverse) r.length = r by
    have := this l.reverse (by rwa [List.reverse_reverse])
    rwa [List.reverse_reverse, List.length_reverse] at this
  intro r
  induction r with
  | nil => intro _; rfl
  | cons x r ih =>
    intro hb
    rw [List.reverse_cons] at hb ⊢
    have h2 := hb.right x (by simp)
    rw [beval_snoc, List.length_cons, leb]
    rw [show (beval r.reverse * 256 + x) % 256 = x by omega, show (beval r.reverse * 256 + x) / 256 = beval r.reverse by omega, ih hb.left]
theorem beval_leb (n : Int) (s : Nat) (h0 : 0 ≤ n) (h1 : n < 256 ^ s) : beval (leb n s).reverse = n := by
  induction s generalizing n with
  | zero => simp at h1; simp [leb, beval]; omega
  | succ s ih =>
    rw [leb, List.reverse_cons, beval_snoc, ih (n / 256) (by omega) (by rw [Int.pow_succ] at h1; omega)]
    omega
/-- A number's bytes, in either order. -/
def putb (n : Int) (s : Nat) (big : Bool) : List Int := if big then (leb n s).reverse else leb n s
theorem putb_length (n : Int) (s : Nat) (big : Bool) : (putb n s big).length = s := by
  unfold putb; split <;> simp [leb_length]
theorem putb_bytes (n : Int) (s : Nat) (big : Bool) : Bytes (putb n s big) := by
  unfold putb; split
  · exact (leb_bytes n s).reverse
  · exact leb_bytes n s
/-- Bytes' number, in either order. -/
def getv (l : List Int) (big : Bool) : Int := beval (if big then l else l.reverse)
theorem getv_putb (n : Int) (s : Nat) (big : Bool) (h0 : 0 ≤ n) (h1 : n < 256 ^ s) : getv (putb n s big) big = n := by
  unfold getv putb
  cases big <;> simp [beval_leb n s h0 h1]
theorem putb_getv (l : List Int) (big : Bool) (h : Bytes l) : putb (getv l big) l.length big = l := by
  unfold getv putb
  cases big
  · have := leb_beval l.reverse h.reverse
    simpa using this
  · have := leb_beval l h
    simp [this]
theorem getv_range (l : List Int) (big : Bool) (h : Bytes l) : 0 ≤ getv l big ∧ getv l big < 256 ^ l.length := by
  unfold getv
  cases big
  · have := beval_range l.reverse h.reverse
    simpa using this
  · simpa using beval_range l h
theorem pow256_le {i j : Nat} (h : i ≤ j) : (256 : Int) ^ i ≤ 256 ^ j := by
  have h1 : ∀ k : Nat, (256 : Int) ^ k = ((256 ^ k : Nat) : Int) := fun k => (Int.natCast_pow 256 k).symm
  rw [h1, h1]
  exact Int.ofNat_le.2 (Nat.pow_le_pow_right (by decide) h)
theorem pow256_8 : (256 : Int) ^ 8 = 18446744073709551616 := by decide
theorem pow256_2 (i : Nat) : (256 : Int) ^ i = 2 ^ (8 * i) := by
  rw [show (256 : Int) = 2 ^ 8 from rfl, ← Int.pow_mul]
end Go.Proofs.YtnokndhppdkmdaaDoor.Q

/- Notes of a dump, told by lists: whether one may be, its bytes, a row's bytes; what bytes read as. -/
namespace Go.Proofs.YtnokndhppdkmdaaDoor.Q
open Go.RowKit Go.Proofs.YtnokndhppdkmdaaDoor.Print Go.Proofs.YtnokndhppdkmdaaDoorW.PrintWords Go.Proofs.YtnokndhppdkmdaaDoorW.PrintLast Go.Proofs.YtnokndhppdkmdaaDoorW.PrintMore
set_option linter.unusedVariables false

abbrev Note := S37
/-- What is told of a note that came in. -/
def NoteOk (x : Note) : Prop := (-9223372036854775808 ≤ x.f0 ∧ x.f0 ≤ 9223372036854775807) ∧ (0 ≤ x.f1 ∧ x.f1 < 4294967296) ∧ Bytes x.f2
theorem rdN_get (l : List Note) (i : Nat) (h : i < l.length) : rd_T37 l (i : Int) = l[i] := by
  unfold rd_T37
  rw [Int.toNat_natCast, List.getD_eq_getElem?_getD, List.getElem?_eq_getElem h]
  rfl
def mayv (kind n : Int) (data : List Int) : Bool :=
  if kind = 1 ∨ kind = 2 then n == 0
  else if 0 < data.length then false
  else if kind = 3 ∨ kind = 4 then n == 0
  else if kind = 5 ∨ kind = 7 then true
  else if kind = 6 then decide (n < 256) else false
theorem mayv_kind {kind n : Int} {data : List Int} (h : mayv kind n data = true) : 1 ≤ kind ∧ kind ≤ 7 := by
  unfold mayv at h
  (repeat' split at h) <;> first | omega | cases h
/-- A note's bytes, of one that may be. -/
def onev (kind n : Int) (data : List Int) : List Int :=
  kind :: (if kind ≤ 2 then ((data.length : Int) / 256) :: ((data.length : Int) % 256) :: data else if kind = 6 then [n] else if kind = 5 ∨ kind = 7 then putb n 4 true else [])
theorem onev_len (kind n : Int) (data : List Int) : (onev kind n data).length ≤ data.length + 5 := by
  unfold onev
  (repeat' split) <;> simp [putb_length] <;> omega
theorem onev_bytes {kind n : Int} {data : List Int} (h : mayv kind n data = true) (hn : 0 ≤ n) (hd : Bytes data) (hl : data.length ≤ 65535) : Bytes (onev kind n data) := by
  have hk := mayv_kind h
  unfold onev
  refine Bytes.cons (by omega) ?_
  split
  · exact Bytes.cons (by omega) (Bytes.cons (by omega) hd)
  · split
    · rename_i h1 h2
      subst h2
      unfold mayv at h
      rw [if_neg (by omega)] at h
      split at h
      · cases h
      · rw [if_neg (by omega), if_neg (by omega), if_pos rfl] at h
        exact Bytes.cons ⟨hn, by simpa using h⟩ Bytes.nil
    · split
      · exact putb_bytes _ _ _
      · exact Bytes.nil
/-- The bytes of notes, behind others, or the first error. -/
def putgo (acc : List Int) : List Note → List Int × Int
  | [] => (acc, 0)
  | x :: l => if mayv x.f0 x.f1 x.f2 then (if 65535 < x.f2.length then ([], 4) else putgo (acc ++ onev x.f0 x.f1 x.f2) l) else ([], 1)
/-- How many bytes at most notes have. -/
def tot : List Note → Nat
  | [] => 0
  | x :: l => x.f2.length + 5 + tot l
theorem tot_mem {l : List Note} {x : Note} (h : x ∈ l) : x.f2.length ≤ tot l := by
  induction l with
  | nil => cases h
  | cons a l ih =>
    rcases List.mem_cons.1 h with rfl | h
    · simp only [tot]
      omega
    · have := ih h
      simp only [tot]
      omega
theorem tot_append (l m : List Note) : tot (l ++ m) = tot l + tot m := by
  induction l with
  | nil => simp [tot]
  | cons a l ih =>
    simp only [List.cons_append, tot, ih]
    omega
/-- May all be, and is none too long? -/
def allOk (l : List Note) : Bool := l.all fun x => mayv x.f0 x.f1 x.f2 && decide (x.f2.length ≤ 65535)
def bytesv (l : List Note) : List Int := l.flatMap fun x => onev x.f0 x.f1 x.f2
theorem putgo_ok (l : List Note) : ∀ acc, allOk l = true → putgo acc l = (acc ++ bytesv l, 0) := by
  induction l with
  | nil => intro acc _; simp [putgo, bytesv]
  | cons a l ih =>
    intro acc h
    simp only [allOk, List.all_cons, Bool.and_eq_true, decide_eq_true_eq] at h
    rw [putgo, if_pos h.1.1, if_neg (by omega), ih _ (by simpa only [allOk, List.all_eq_true, Bool.and_eq_true, decide_eq_true_eq] using h.2)]
    simp [bytesv, List.append_assoc]
theorem putgo_no (l : List Note) : ∀ acc, allOk l = false → (putgo acc l).1 = [] ∧ (putgo acc l).2 ≠ 0 := by
  induction l with
  | nil => intro acc h; cases h
  | cons a l ih =>
    intro acc h
    rw [putgo]
    split
    · rename_i h1
      split
      · exact ⟨rfl, by simp⟩
      · rename_i h2
        refine ih _ ?_
        simp only [allOk, List.all_cons, h1, Bool.true_and] at h
        rw [show decide (a.f2.length ≤ 65535) = true from decide_eq_true (by omega), Bool.true_and] at h
        exact h
    · exact ⟨rfl, by simp⟩
end Go.Proofs.YtnokndhppdkmdaaDoor.Q

/- The functions of octet and of its reference, told by lists. -/
namespace Go.Proofs.YtnokndhppdkmdaaDoor.Q
open Go.RowKit Go.Proofs.YtnokndhppdkmdaaDoor.Print Go.Proofs.YtnokndhppdkmdaaDoorW.PrintWords Go.Proofs.YtnokndhppdkmdaaDoorW.PrintLast Go.Proofs.YtnokndhppdkmdaaDoorW.PrintMore

set_option linter.unusedVariables false
set_option linter.unusedSimpArgs false
theorem div_zero {n p : Int} (h0 : 0 ≤ n) (hp : 0 < p) : n / p = 0 ↔ n < p := by
  constructor
  · intro h
    have h1 := Int.mul_ediv_add_emod n p
    have h2 := Int.emod_lt_of_pos n hp
    rw [h, Int.mul_zero] at h1
    omega
  · intro h
    exact Int.ediv_eq_zero_of_lt h0 h

/-! ### Fits -/
def fits (n : Int) (s : Int) : Bool := decide (1 ≤ s) && decide (s ≤ 8) && decide (n < 256 ^ s.toNat)
theorem fits_spec (n s : Int) (h0 : 0 ≤ n) (h1 : n < 18446744073709551616) : octet_Fits.f n s = some (fits n s) := by
  unfold octet_Fits.f fits
  by_cases a : 1 ≤ s
  · rw [if_pos a]
    by_cases b : s ≤ 8
    · rw [if_pos b]
      by_cases c : s = 8
      · subst c
        rw [if_pos rfl]
        simp [pow256_8, h1]
      · rw [if_neg c, w64 (by omega) (by omega), if_pos (by omega)]
        have hs : shr .u64 n (8 * s) = n / 256 ^ s.toNat := by
          unfold shr
          rw [Nat.min_eq_left (by simp [IntKind.bits]; omega), pow256_2, show (8 * s).toNat = 8 * s.toNat by omega]
        rw [hs]
        have hp : (0 : Int) < 256 ^ s.toNat := Int.pow_pos (by decide)
        have : (n / 256 ^ s.toNat == 0) = decide (n < 256 ^ s.toNat) := by
          rw [Bool.eq_iff_iff, beq_iff_eq, decide_eq_true_iff]
          exact div_zero h0 hp
        simp [this, a, b]
    · rw [if_neg b]
      simp [b]
  · rw [if_neg a]
    simp [a]

/-! ### Reverse -/
theorem rev_loop (x : List Int) (hm : x.length ≤ 4611686018427387904) (d : Nat) : ∀ (y : List Int) (i : Nat) (k : Nat), y.length = x.length → 2 * i ≤ x.length → x.length + 1 - 2 * i ≤ d → d < k →
    (∀ p, (hp : p < x.length) → (hq : p < y.length) → y[p] = if p < i ∨ x.length - i ≤ p then x[x.length - 1 - p]'(by omega) else x[p]) →
    slices_Reverse_byte_byte.l0 k y (i : Int) ((x.length : Int) - 1 - i) = some x.reverse := by
  induction d with
  | zero => intro y i k hl hi hd hk h; omega
  | succ d ih =>
    intro y i k hl hi hd hk h
    obtain ⟨k, rfl, hk⟩ := succ_of hk
    rw [slices_Reverse_byte_byte.l0]
    by_cases c : (i : Int) < (x.length : Int) - 1 - i
    · rw [if_pos c, if_pos (by omega), if_pos (by omega), if_pos (by omega), if_pos (by omega)]
      rw [show ((x.length : Int) - 1 - (i : Int)) = ((x.length - 1 - i : Nat) : Int) by omega]
      rw [rd_get (a := y) (x.length - 1 - i) (by omega), rd_get (a := y) i (by omega), Int.toNat_natCast, Int.toNat_natCast]
      rw [w64 (by omega) (by omega), w64 (by omega) (by omega)]
      have := ih ((y.set i (y[x.length - 1 - i]'(by omega))).set (x.length - 1 - i) (y[i]'(by omega))) (i + 1) k (by simp [hl]) (by omega) (by omega) (by omega) (by
        intro p hp hq
        have hi1 := h i (by omega) (by omega)
        have hj1 := h (x.length - 1 - i) (by omega) (by omega)
        have hp1 := h p hp (by omega)
        simp only [List.getElem_set]
        by_cases e1 : x.length - 1 - i = p
        · subst e1
          simp only [if_true]
          rw [hi1, if_neg (by omega), if_pos (by omega)]
          congr 1
          omega
        · rw [if_neg e1]
          by_cases e2 : i = p
          · subst e2
            simp only [if_true]
            rw [hj1, if_neg (by omega), if_pos (by omega)]
          · rw [if_neg e2, hp1]
            by_cases e3 : p < i ∨ x.length - i ≤ p
            · rw [if_pos e3, if_pos (by omega)]
            · rw [if_neg e3, if_neg (by omega)])
      rw [show ((i : Int) + 1) = ((i + 1 : Nat) : Int) by omega, show (((x.length - 1 - i : Nat) : Int) - 1) = (x.length : Int) - 1 - ((i + 1 : Nat) : Int) by omega]
      exact this
    · rw [if_neg c]
      congr 1
      apply List.ext_getElem
      · simp [hl]
      · intro p hp hq
        simp only [List.length_reverse] at hq
        rw [List.getElem_reverse, h p (by omega) hp]
        by_cases e : p < i ∨ x.length - i ≤ p
        · rw [if_pos e]
        · rw [if_neg e]
          congr 1
          omega
theorem reverse_spec (x : List Int) (hm : x.length ≤ 4611686018427387904) : Ev (fun k => slices_Reverse_byte_byte.f k x) x.reverse := by
  refine ⟨x.length + 3, fun k hk => ?_⟩
  show slices_Reverse_byte_byte.f k x = _
  unfold slices_Reverse_byte_byte.f
  rw [w64 (by omega) (by omega)]
  have := rev_loop x hm (x.length + 2) x 0 k rfl (by omega) (by omega) (by omega) (by
    intro p hp hq
    rw [if_neg (by omega)])
  simpa using this

/-! ### Put -/
theorem put_loop (n : Int) (h0 : 0 ≤ n) (s : Nat) (hs : s ≤ 8) (big : Bool) (d : Nat) : ∀ (i : Nat) (y : List Int), s - i = d → i ≤ s → y = leb n i ++ List.replicate (s - i) 0 →
    Ev (fun k => octet_Put.l0 k n big y (s : Int) (i : Int)) (putb n s big, true) := by
  induction d with
  | zero =>
    intro i y hd hi hy
    obtain rfl : i = s := by omega
    rw [Nat.sub_self, List.replicate_zero, List.append_nil] at hy
    subst hy
    refine Ev.step (f := fun k => if big = true then ((slices_Reverse_byte_byte.f k (leb n i)).bind fun t => (some (t, true))) else (some (leb n i, true))) (fun k => ?_) ?_
    · rw [octet_Put.l0, if_neg (by omega)]
    · unfold putb
      cases big
      · exact Ev.const rfl
      · simp only [if_true]
        exact Ev.bind (reverse_spec _ (by rw [leb_length]; omega)) (Ev.now _)
  | succ d ih =>
    intro i y hd hi hy
    have hlen : y.length = s := by
      subst hy
      simp [leb_length]
      omega
    refine Ev.step (f := fun k => octet_Put.l0 k n big (leb n (i + 1) ++ List.replicate (s - (i + 1)) 0) (s : Int) ((i + 1 : Nat) : Int)) (fun k => ?_) (ih (i + 1) _ (by omega) (by omega) rfl)
    rw [octet_Put.l0, if_pos (by omega), w64 (by omega) (by omega), if_pos (by omega), if_pos (by omega), if_pos (by omega), w64 (by omega) (by omega), Int.toNat_natCast]
    have hsh : shr .u64 n (8 * (i : Int)) = n / 256 ^ i := by
      unfold shr
      rw [Nat.min_eq_left (by simp [IntKind.bits]; omega), pow256_2, show (8 * (i : Int)).toNat = 8 * i by omega]
    have : y.set i (shr .u64 n (8 * (i : Int)) % 256) = leb n (i + 1) ++ List.replicate (s - (i + 1)) 0 := by
      rw [hsh, hy, leb_snoc, show s - i = (s - (i + 1)) + 1 by omega, List.replicate_succ, List.set_append_right _ _ (by rw [leb_length]; exact Nat.le_refl _)]
      simp [leb_length]
    rw [this]
    rfl
theorem put_spec (n s : Int) (big : Bool) (h0 : 0 ≤ n) (h1 : n < 18446744073709551616) : Ev (fun k => octet_Put.f k n s big) (if fits n s then (putb n s.toNat big, true) else ([], false)) := by
  unfold octet_Put.f
  rw [fits_spec n s h0 h1]
  simp only [Option.bind_some]
  by_cases c : fits n s = true
  · simp only [c, if_true]
    have hf : 1 ≤ s ∧ s ≤ 8 := by
      unfold fits at c
      simp only [Bool.and_eq_true, decide_eq_true_eq] at c
      exact c.1
    simp only [show (0 : Int) ≤ s by omega, show s.toNat ≤ 281474976710656 by omega, if_true]
    have := put_loop n h0 s.toNat (by omega) big s.toNat 0 (List.replicate s.toNat 0) (by omega) (by omega) (by simp [leb])
    rw [show ((s.toNat : Nat) : Int) = s by omega] at this
    exact this
  · simp only [c, if_false]
    exact Ev.const rfl

/-! ### Get -/
theorem or_step (v b : Int) (h0 : 0 ≤ v) (h1 : v < 72057594037927936) (hb : 0 ≤ b ∧ b < 256) : Go.bits .or .u64 (IntKind.u64.wrap (v * 256)) (IntKind.u64.wrap b) = v * 256 + b := by
  rw [wu64s (by omega) (by omega), wu64s (by omega) (by omega)]
  exact u64_or_low (i := 8) (by omega) (by omega) (by omega) (by omega) (by omega) (by omega)
theorem get_loop (x : List Int) (hb : Bytes x) (hl : x.length ≤ 8) (big : Bool) (d : Nat) : ∀ i : Nat, x.length - i = d → i ≤ x.length →
    Ev (fun k => octet_Get.l0 k x big (beval ((if big then x else x.reverse).take i)) (x.length : Int) (i : Int)) (getv x big, true) := by
  induction d with
  | zero =>
    intro i hd hi
    obtain rfl : i = x.length := by omega
    refine Ev.step (f := fun _ => some (getv x big, true)) (fun k => ?_) (Ev.now _)
    rw [octet_Get.l0, if_neg (by omega)]
    unfold getv
    cases big <;> simp [List.take_of_length_le]
  | succ d ih =>
    intro i hd hi
    refine Ev.step (f := fun k => octet_Get.l0 k x big (beval ((if big then x else x.reverse).take (i + 1))) (x.length : Int) ((i + 1 : Nat) : Int)) (fun k => ?_) (ih (i + 1) (by omega) (by omega))
    have hr : 0 ≤ beval ((if big then x else x.reverse).take i) ∧ beval ((if big then x else x.reverse).take i) < 72057594037927936 := by
      have hbb : Bytes ((if big then x else x.reverse).take i) := by
        cases big
        · exact hb.reverse.take i
        · exact hb.take i
      have := beval_range _ hbb
      have h2 := pow256_le (i := ((if big then x else x.reverse).take i).length) (j := 7) (by rw [List.length_take]; omega)
      rw [show (256 : Int) ^ 7 = 72057594037927936 from by decide] at h2
      exact ⟨this.1, Int.lt_of_lt_of_le this.2 h2⟩
    rw [octet_Get.l0, if_pos (by omega), w64 (x := (x.length : Int) - 1) (by omega) (by omega), w64 (x := (x.length : Int) - 1 - (i : Int)) (by omega) (by omega), if_pos (by omega), if_pos (by omega)]
    cases big
    · simp only [Bool.false_eq_true, if_false] at hr ⊢
      rw [or_step _ _ hr.1 hr.2 (hb.at _), w64 (by omega) (by omega)]
      rw [List.take_succ_eq_append_getElem (by simp; omega), beval_snoc, List.getElem_reverse]
      rw [show ((x.length : Int) - 1 - (i : Int)) = ((x.length - 1 - i : Nat) : Int) by omega, rd_get (a := x) (x.length - 1 - i) (by omega)]
      rfl
    · simp only [if_true] at hr ⊢
      rw [if_pos (by omega), if_pos (by omega), or_step _ _ hr.1 hr.2 (hb.at _), w64 (by omega) (by omega)]
      rw [List.take_succ_eq_append_getElem (by omega), beval_snoc, rd_get (a := x) i (by omega)]
      rfl
theorem get_spec (x : List Int) (hb : Bytes x) (big : Bool) : Ev (fun k => octet_Get.f k x big) (if 1 ≤ x.length ∧ x.length ≤ 8 then (getv x big, true) else (0, false)) := by
  unfold octet_Get.f
  by_cases a : (x.length : Int) < 1
  · simp only [a, if_true]
    rw [if_neg (by omega)]
    refine Ev.step (f := fun _ => some (0, false)) (fun k => ?_) (Ev.now _)
    rw [octet_Get.j0, if_pos rfl]
  · simp only [a, if_false]
    by_cases b : (x.length : Int) > 8
    · rw [if_neg (by omega)]
      refine Ev.step (f := fun _ => some (0, false)) (fun k => ?_) (Ev.now _)
      rw [octet_Get.j0, if_pos (by simpa using b)]
    · rw [if_pos (by omega)]
      refine Ev.step (f := fun k => octet_Get.l0 k x big 0 (x.length : Int) 0) (fun k => ?_) ?_
      · rw [octet_Get.j0, if_neg (by simpa using b)]
      · have := get_loop x hb (by omega) big x.length 0 (by omega) (by omega)
        simpa [beval] using this
end Go.Proofs.YtnokndhppdkmdaaDoor.Q

/- The functions of octet's reference, told by lists: Put and Get. -/
namespace Go.Proofs.YtnokndhppdkmdaaDoor.Q
open Go.RowKit Go.Proofs.YtnokndhppdkmdaaDoor.Print Go.Proofs.YtnokndhppdkmdaaDoorW.PrintWords Go.Proofs.YtnokndhppdkmdaaDoorW.PrintLast Go.Proofs.YtnokndhppdkmdaaDoorW.PrintMore
set_option linter.unusedVariables false
set_option linter.unusedSimpArgs false

theorem leb_drop (n : Int) (i : Nat) : ∀ s : Nat, leb n (i + s) = leb n i ++ leb (n / 256 ^ i) s := by
  induction i generalizing n with
  | zero => intro s; simp [leb]
  | succ i ih =>
    intro s
    rw [show i + 1 + s = (i + s) + 1 by omega, leb, ih (n / 256) s, leb, List.cons_append, Int.pow_succ, Int.mul_comm, Int.ediv_ediv_of_nonneg (by decide)]
theorem rput_loop (n : Int) (h0 : 0 ≤ n) (h1 : n < 18446744073709551616) (s : Nat) (hs : s ≤ 8) (big : Bool) (d : Nat) : ∀ (i : Nat), s - i = d → i ≤ s →
    Ev (fun k => umpireref02_Put.l0 k (n / 256 ^ i) (s : Int) big (putb n i big) (i : Int)) (putb n s big) := by
  induction d with
  | zero =>
    intro i hd hi
    obtain rfl : i = s := by omega
    refine Ev.step (f := fun _ => some (putb n i big)) (fun k => ?_) (Ev.now _)
    rw [umpireref02_Put.l0, if_neg (by omega)]
  | succ d ih =>
    intro i hd hi
    refine Ev.step (f := fun k => umpireref02_Put.l0 k (n / 256 ^ (i + 1)) (s : Int) big (putb n (i + 1) big) ((i + 1 : Nat) : Int)) (fun k => ?_) (ih (i + 1) (by omega) (by omega))
    have hq0 : 0 ≤ n / 256 ^ i := Int.ediv_nonneg h0 (Int.le_of_lt (Int.pow_pos (by decide)))
    have hq1 : n / 256 ^ i ≤ n := Int.ediv_le_self _ h0
    have hdv : IntKind.u64.wrap (Int.tdiv (n / 256 ^ i) 256) = n / 256 ^ (i + 1) := by
      rw [Int.tdiv_eq_ediv_of_nonneg hq0, Int.ediv_ediv_of_nonneg (Int.le_of_lt (Int.pow_pos (by decide))), ← Int.pow_succ, wu64s]
      · exact Int.ediv_nonneg h0 (Int.le_of_lt (Int.pow_pos (by decide)))
      · exact Int.lt_of_le_of_lt (Int.ediv_le_self _ h0) h1
    have hmd : Int.tmod (n / 256 ^ i) 256 % 256 = n / 256 ^ i % 256 := by
      rw [Int.tmod_eq_emod_of_nonneg hq0]
      omega
    have hl : (putb n i big).length = i := putb_length _ _ _
    rw [umpireref02_Put.l0, if_pos (by omega), hdv, hmd, w64 (by omega) (by omega)]
    cases big
    · simp only [Bool.false_eq_true, if_false]
      rw [if_pos (by omega)]
      have : putb n i false ++ [n / 256 ^ i % 256] = putb n (i + 1) false := by
        unfold putb
        simp only [Bool.false_eq_true, if_false]
        rw [leb_snoc]
      rw [this]
      rfl
    · simp only [if_true, Option.bind_some]
      rw [if_pos (by simp [hl]; omega)]
      have : [n / 256 ^ i % 256] ++ putb n i true = putb n (i + 1) true := by
        unfold putb
        simp only [if_true]
        rw [leb_snoc, List.reverse_append]
        rfl
      rw [this]
      rfl
theorem rput_spec (n : Int) (s : Nat) (big : Bool) (h0 : 0 ≤ n) (h1 : n < 18446744073709551616) (hs : s ≤ 8) : Ev (fun k => umpireref02_Put.f k n (s : Int) big) (putb n s big) := by
  have := rput_loop n h0 h1 s hs big s 0 (by omega) (by omega)
  have e : putb n 0 big = [] := by unfold putb; cases big <;> rfl
  rw [e] at this
  simp only [Int.pow_zero, Int.ediv_one] at this
  exact this

end Go.Proofs.YtnokndhppdkmdaaDoor.Q

/- dump.Put and the reference's, told by lists. -/
namespace Go.Proofs.YtnokndhppdkmdaaDoor.Q
open Go.RowKit Go.Proofs.YtnokndhppdkmdaaDoor.Print Go.Proofs.YtnokndhppdkmdaaDoorW.PrintWords Go.Proofs.YtnokndhppdkmdaaDoorW.PrintLast Go.Proofs.YtnokndhppdkmdaaDoorW.PrintMore
set_option linter.unusedVariables false
set_option linter.unusedSimpArgs false

theorem kinds {k : Int} (h1 : ¬ k < 1) (h2 : ¬ k > 7) : k = 1 ∨ k = 2 ∨ k = 3 ∨ k = 4 ∨ k = 5 ∨ k = 6 ∨ k = 7 := by omega
theorem fits_4 {n : Int} (h1 : n < 4294967296) : fits n 4 = true := by
  unfold fits
  simp only [Bool.and_eq_true, decide_eq_true_eq]
  refine ⟨⟨by omega, by omega⟩, ?_⟩
  rw [show (256 : Int) ^ (4 : Int).toNat = 4294967296 by decide]
  exact h1
theorem fits_1 (n : Int) : fits n 1 = decide (n < 256) := by
  unfold fits
  rw [show (256 : Int) ^ (1 : Int).toNat = 256 by decide]
  simp
theorem fits_0 (n : Int) : fits n 0 = false := by
  unfold fits
  simp
theorem may_j0 (k : Nat) (kind n : Int) (data : List Int) (h1 : ¬ kind < 1) (h2 : ¬ kind > 7) (hn0 : 0 ≤ n) (hn : n < 4294967296) : dump_may.j0 (k + 1) false kind n data = some (mayv kind n data) := by
  rw [dump_may.j0, if_neg (by decide), if_pos (by omega), if_pos (by omega), wu64s hn0 (by omega)]
  have f : ∀ s, octet_Fits.f n s = some (fits n s) := fun s => fits_spec n s hn0 (by omega)
  unfold mayv
  by_cases e : n = 0
  · by_cases hd : 0 < data.length
    · rcases kinds h1 h2 with rfl | rfl | rfl | rfl | rfl | rfl | rfl <;> simp [rd_T49, formsG0, e, hd]
    · rcases kinds h1 h2 with rfl | rfl | rfl | rfl | rfl | rfl | rfl <;> simp [rd_T49, formsG0, e, hd]
  · by_cases hd : 0 < data.length
    · rcases kinds h1 h2 with rfl | rfl | rfl | rfl | rfl | rfl | rfl <;> simp [rd_T49, formsG0, e, hd]
    · rcases kinds h1 h2 with rfl | rfl | rfl | rfl | rfl | rfl | rfl <;> simp [rd_T49, formsG0, e, hd, f, fits_4 hn, fits_1]
theorem may_out {kind n : Int} {data : List Int} (h : kind < 1 ∨ kind > 7) : mayv kind n data = false := by
  cases e : mayv kind n data with
  | false => rfl
  | true =>
    have := mayv_kind e
    omega
theorem may_spec (kind n : Int) (data : List Int) (hn0 : 0 ≤ n) (hn : n < 4294967296) : Ev (fun k => dump_may.f k kind n data) (mayv kind n data) := by
  unfold dump_may.f
  by_cases h1 : kind < 1
  · simp only [if_pos h1]
    rw [may_out (.inl h1)]
    exact Ev.step (f := fun _ => some false) (fun k => by rw [dump_may.j0, if_pos rfl]) (Ev.now _)
  · simp only [if_neg h1]
    by_cases h2 : kind > 7
    · simp only [h2, decide_true]
      rw [may_out (.inr h2)]
      exact Ev.step (f := fun _ => some false) (fun k => by rw [dump_may.j0, if_pos rfl]) (Ev.now _)
    · simp only [h2, decide_false]
      exact Ev.step (f := fun _ => some (mayv kind n data)) (fun k => may_j0 k kind n data h1 h2 hn0 hn) (Ev.now _)
theorem rmay_spec (kind n : Int) (data : List Int) : Ev (fun k => umpireref10_May.f k kind n data) (mayv kind n data) := by
  unfold umpireref10_May.f
  have t : ∀ (b : Bool), b = decide (kind = 1 ∨ kind = 2) → Ev (fun k => umpireref10_May.j0 k b kind n data) (mayv kind n data) := by
    intro b hb
    refine Ev.step (f := fun _ => some (mayv kind n data)) (fun k => ?_) (Ev.now _)
    rw [umpireref10_May.j0, hb]
    unfold mayv
    by_cases h : kind = 1 ∨ kind = 2
    · simp [h]
    · simp only [h, decide_false, Bool.false_eq_true, if_false]
      by_cases hd : 0 < data.length
      · rw [if_pos (by omega), if_pos hd]
      · rw [if_neg (by omega), if_neg hd]
        by_cases e3 : kind = 3
        · simp [e3]
        · by_cases e4 : kind = 4
          · simp [e4]
          · by_cases e5 : kind = 5
            · simp [e5]
            · by_cases e7 : kind = 7
              · simp [e7]
              · by_cases e6 : kind = 6
                · simp [e6]
                · simp [e3, e4, e5, e6, e7]
  by_cases h1 : kind = 1
  · simp only [if_pos h1]
    exact t true (by simp [h1])
  · simp only [if_neg h1]
    exact t (kind == 2) (by rw [Bool.eq_iff_iff]; simp [h1])
theorem putb_1 {n : Int} (h0 : 0 ≤ n) (h : n < 256) : putb n 1 true = [n] := by
  unfold putb leb leb
  simp
  omega
theorem putb_0 (n : Int) (b : Bool) : putb n 0 b = [] := by
  unfold putb
  cases b <;> rfl
/-- One note, laid behind others by the program. -/
theorem dput_one (x : Note) (hx : NoteOk x) (hm : mayv x.f0 x.f1 x.f2 = true) (hl : x.f2.length ≤ 65535) (acc : List Int) (ha : acc.length + (x.f2.length + 5) < 140737488355328) {G : Nat → List Int → Option (List Int × Int)} {r : List Int × Int}
    (hG : Ev (fun k => G k (acc ++ onev x.f0 x.f1 x.f2)) r) :
    Ev (fun k => (if acc.length < 140737488355328 then ((some (acc ++ [(x.f0) % 256] : List Int)).bind fun y119 => (if 0 ≤ (x.f0) then (if (x.f0) < 8 then (if (rd_T49 formsG0 (x.f0)).f0 = true then ((some (([(((x.f2).length : Int) / 256) % 256, (((x.f2).length : Int)) % 256] : List Int) : List Int)).bind fun y124 => (if y119.length + y124.length < 140737488355328 then ((some (y119 ++ y124 : List Int)).bind fun y127 => (if y127.length + (x.f2).length < 140737488355328 then (G k (y127 ++ (x.f2))) else (none))) else (none))) else ((octet_Put.f k (IntKind.u64.wrap (x.f1)) ((rd_T49 formsG0 (x.f0)).f1) true).bind fun bt133 => (if y119.length + bt133.1.length < 140737488355328 then (G k (y119 ++ bt133.1)) else (none)))) else (none)) else (none))) else (none))) r := by
  have hk := mayv_kind hm
  obtain ⟨_, hn, hb⟩ := hx
  have hko : x.f0 % 256 = x.f0 := by omega
  simp only [if_pos (show acc.length < 140737488355328 by omega), Option.bind_some, if_pos (show 0 ≤ x.f0 by omega), if_pos (show x.f0 < 8 by omega), hko]
  by_cases h2 : x.f0 ≤ 2
  · have e : (rd_T49 formsG0 x.f0).f0 = true := by
      obtain h | h : x.f0 = 1 ∨ x.f0 = 2 := by omega
      all_goals rw [h]; rfl
    simp only [e, if_true, List.length_append, List.length_cons, List.length_nil]
    refine Ev.congr (fun k => if_pos (by omega)) ?_
    refine Ev.congr (fun k => if_pos (by omega)) ?_
    have e2 : onev x.f0 x.f1 x.f2 = [x.f0] ++ [((x.f2).length : Int) / 256, ((x.f2).length : Int) % 256] ++ x.f2 := by
      unfold onev
      rw [if_pos h2]
      rfl
    rw [e2, ← List.append_assoc, ← List.append_assoc] at hG
    rw [show ((x.f2).length : Int) / 256 % 256 = ((x.f2).length : Int) / 256 by omega]
    exact hG
  · have e : (rd_T49 formsG0 x.f0).f0 = false := by
      obtain h | h | h | h | h : x.f0 = 3 ∨ x.f0 = 4 ∨ x.f0 = 5 ∨ x.f0 = 6 ∨ x.f0 = 7 := by omega
      all_goals rw [h]; rfl
    simp only [e, Bool.false_eq_true, if_false, List.length_append, List.length_cons, List.length_nil, wu64s hn.1 (show x.f1 < 18446744073709551616 by omega)]
    have key : (if fits x.f1 (rd_T49 formsG0 x.f0).f1 = true then (putb x.f1 (rd_T49 formsG0 x.f0).f1.toNat true, true) else ([], false)).1 = (onev x.f0 x.f1 x.f2).tail := by
      have hm2 := hm
      unfold mayv at hm2
      rw [if_neg (by omega)] at hm2
      split at hm2
      · cases hm2
      · unfold onev
        obtain h | h | h | h | h : x.f0 = 3 ∨ x.f0 = 4 ∨ x.f0 = 5 ∨ x.f0 = 6 ∨ x.f0 = 7 := by omega
        · rw [h]
          simp [rd_T49, formsG0, fits_0]
        · rw [h]
          simp [rd_T49, formsG0, fits_0]
        · rw [h]
          simp [rd_T49, formsG0, fits_4 hn.2]
        · rw [h] at hm2 ⊢
          simp at hm2
          simp [rd_T49, formsG0, fits_1, hm2, putb_1 hn.1 hm2]
        · rw [h]
          simp [rd_T49, formsG0, fits_4 hn.2]
    refine Ev.bind (put_spec x.f1 _ true hn.1 (by omega)) ?_
    rw [key]
    have hl5 := onev_len x.f0 x.f1 x.f2
    have e3 : onev x.f0 x.f1 x.f2 = x.f0 :: (onev x.f0 x.f1 x.f2).tail := rfl
    have e4 : (onev x.f0 x.f1 x.f2).tail.length + 1 = (onev x.f0 x.f1 x.f2).length := by
      conv => rhs; rw [e3]
      rfl
    refine Ev.congr (fun k => if_pos (by omega)) ?_
    rw [e3] at hG
    simpa [List.append_assoc] using hG
theorem dput_loop (l : List Note) (hl : l.length < 140737488355328) (hx : ∀ x ∈ l, NoteOk x) : ∀ (d i : Nat) (acc : List Int), l.length - i = d → i ≤ l.length → acc.length + tot (l.drop i) < 140737488355328 →
    Ev (fun k => dump_Put.l0 k acc l (l.length : Int) (i : Int)) (putgo acc (l.drop i)) := by
  intro d
  induction d with
  | zero =>
    intro i acc hd hi ht
    refine Ev.step (f := fun _ => some (acc, 0)) (fun k => ?_) ?_
    · rw [dump_Put.l0, if_neg (by omega)]
    · rw [List.drop_of_length_le (by omega), putgo]
      exact Ev.now _
  | succ d ih =>
    intro i acc hd hi ht
    have hlt : i < l.length := by omega
    rw [List.drop_eq_getElem_cons hlt] at ht ⊢
    simp only [tot] at ht
    rw [putgo]
    have hok := hx l[i] (List.getElem_mem hlt)
    refine Ev.step (fun k => by rw [dump_Put.l0, if_pos (by omega), if_pos (by omega), if_pos (by omega), rdN_get l i hlt]) ?_
    refine Ev.bind (may_spec _ _ _ hok.2.1.1 hok.2.1.2) ?_
    cases hm : mayv l[i].f0 l[i].f1 l[i].f2 with
    | false =>
      simp only [Bool.false_eq_true, if_false]
      exact Ev.now _
    | true =>
      simp only [if_true]
      by_cases hb : 65535 < l[i].f2.length
      · rw [if_pos hb]
        simp only [if_pos (show (l[i].f2.length : Int) > 65535 by omega)]
        exact Ev.now _
      · rw [if_neg hb]
        simp only [if_neg (show ¬ (l[i].f2.length : Int) > 65535 by omega)]
        have hl5 := onev_len l[i].f0 l[i].f1 l[i].f2
        have h := ih (i + 1) (acc ++ onev l[i].f0 l[i].f1 l[i].f2) (by omega) (by omega) (by rw [List.length_append]; omega)
        refine dput_one l[i] hok hm (by omega) acc (by omega) (G := fun k a => dump_Put.l0 k a l (l.length : Int) (wrap64 ((i : Int) + 1))) ?_
        rw [w64 (by omega) (by omega)]
        exact h
theorem dput_spec (l : List Note) (hl : l.length < 140737488355328) (hx : ∀ x ∈ l, NoteOk x) (ht : tot l < 140737488355328) : Ev (fun k => dump_Put.f k l) (putgo [] l) := by
  have := dput_loop l hl hx l.length 0 [] (by omega) (by omega) (by simpa using ht)
  simpa [dump_Put.f] using this
theorem rone_spec (x : Note) (hx : NoteOk x) (hm : mayv x.f0 x.f1 x.f2 = true) (hl : x.f2.length ≤ 65535) : Ev (fun k => umpireref10_One.f k x.f0 x.f1 x.f2) (onev x.f0 x.f1 x.f2) := by
  have hk := mayv_kind hm
  obtain ⟨_, hn, hb⟩ := hx
  unfold umpireref10_One.f onev
  rw [show x.f0 % 256 = x.f0 by omega, w64 (x := (x.f2.length : Int) / 256) (by omega) (by omega), show ((x.f2).length : Int) / 256 % 256 = ((x.f2).length : Int) / 256 by omega]
  simp only [Option.bind_some]
  by_cases h2 : x.f0 ≤ 2
  · simp only [if_pos h2, Option.bind_some, List.length_append, List.length_cons, List.length_nil]
    refine Ev.congr (fun k => if_pos (by omega)) ?_
    refine Ev.congr (fun k => if_pos (by omega)) ?_
    exact Ev.now _
  · simp only [if_neg h2]
    by_cases h6 : x.f0 = 6
    · simp only [h6, if_true]
      have h7 : x.f1 % 256 = x.f1 := by
        unfold mayv at hm
        rw [h6] at hm
        simp at hm
        omega
      simp only [List.length_cons, List.length_nil, h7]
      exact Ev.now _
    · simp only [if_neg h6, wu64s hn.1 (show x.f1 < 18446744073709551616 by omega)]
      by_cases h5 : x.f0 = 5
      · simp only [h5, if_true, true_or]
        refine Ev.bind (rput_spec x.f1 4 true hn.1 (by omega) (by omega)) ?_
        simp only [List.length_cons, List.length_nil, putb_length]
        exact Ev.now _
      · simp only [if_neg h5]
        by_cases h7 : x.f0 = 7
        · simp only [h7, if_true, or_true]
          refine Ev.bind (rput_spec x.f1 4 true hn.1 (by omega) (by omega)) ?_
          simp only [List.length_cons, List.length_nil, putb_length]
          exact Ev.now _
        · simp only [if_neg h7, h5, h7, or_self, if_false]
          exact Ev.now _
theorem rput10_loop (l : List Note) (hl : l.length < 140737488355328) (hx : ∀ x ∈ l, NoteOk x) : ∀ (d i : Nat) (acc : List Int), l.length - i = d → i ≤ l.length → acc.length + tot (l.drop i) < 140737488355328 →
    Ev (fun k => umpireref10_Put.l0 k l acc (i : Int)) (putgo acc (l.drop i)) := by
  intro d
  induction d with
  | zero =>
    intro i acc hd hi ht
    refine Ev.step (f := fun _ => some (acc, 0)) (fun k => ?_) ?_
    · rw [umpireref10_Put.l0, if_neg (by omega)]
    · rw [List.drop_of_length_le (by omega), putgo]
      exact Ev.now _
  | succ d ih =>
    intro i acc hd hi ht
    have hlt : i < l.length := by omega
    rw [List.drop_eq_getElem_cons hlt] at ht ⊢
    simp only [tot] at ht
    rw [putgo]
    have hok := hx l[i] (List.getElem_mem hlt)
    refine Ev.step (fun k => by rw [umpireref10_Put.l0, if_pos (by omega), if_pos (by omega), rdN_get l i hlt]) ?_
    refine Ev.bind (rmay_spec _ _ _) ?_
    cases hm : mayv l[i].f0 l[i].f1 l[i].f2 with
    | false =>
      simp only [Bool.false_eq_true, if_false]
      exact Ev.now _
    | true =>
      simp only [if_true]
      by_cases hb : 65535 < l[i].f2.length
      · rw [if_pos hb]
        simp only [if_pos (show (l[i].f2.length : Int) > 65535 by omega)]
        exact Ev.now _
      · rw [if_neg hb]
        simp only [if_neg (show ¬ (l[i].f2.length : Int) > 65535 by omega)]
        have hl5 := onev_len l[i].f0 l[i].f1 l[i].f2
        refine Ev.bind (rone_spec l[i] hok hm (by omega)) ?_
        refine Ev.congr (fun k => if_pos (by omega)) ?_
        rw [w64 (by omega) (by omega)]
        exact ih (i + 1) (acc ++ onev l[i].f0 l[i].f1 l[i].f2) (by omega) (by omega) (by rw [List.length_append]; omega)
theorem rput10_spec (l : List Note) (hl : l.length < 140737488355328) (hx : ∀ x ∈ l, NoteOk x) (ht : tot l < 140737488355328) : Ev (fun k => umpireref10_Put.f k l) (putgo [] l) := by
  have := rput10_loop l hl hx l.length 0 [] (by omega) (by omega) (by simpa using ht)
  simpa [umpireref10_Put.f] using this

/-! ### few notes -/
def fs (l : List Note) : Nat := (l.map fun x => min x.f2.length 100000).sum
theorem fs_next (l : List Note) (i : Nat) (h : i < l.length) : fs (l.take (i + 1)) = fs (l.take i) + min l[i].f2.length 100000 := by
  unfold fs
  rw [List.take_succ_eq_append_getElem h]
  simp only [List.map_append, List.sum_append, List.map_cons, List.map_nil, List.sum_cons, List.sum_nil, Nat.add_zero]
theorem fs_le (l : List Note) : fs l ≤ l.length * 100000 := by
  unfold fs
  induction l with
  | nil => simp
  | cons a l ih =>
    rw [List.map_cons, List.sum_cons, List.length_cons]
    omega
theorem fs_mem {l : List Note} {x : Note} (h : x ∈ l) : min x.f2.length 100000 ≤ fs l := by
  unfold fs
  induction l with
  | nil => cases h
  | cons a l ih =>
    rw [List.map_cons, List.sum_cons]
    rcases List.mem_cons.1 h with rfl | h
    · omega
    · have := ih h
      omega
def fewv (l : List Note) : Bool := decide (l.length ≤ 50) && decide (fs (l.take 100) ≤ 70000)
theorem few_loop (l : List Note) (hl : l.length < 140737488355328) : ∀ (d i : Nat), min l.length 100 - i = d → i ≤ min l.length 100 → Ev (fun k => umpireref10_Few.l0 k l (fs (l.take i) : Int) (i : Int)) (fewv l) := by
  intro d
  have fin : ∀ i, i = min l.length 100 → (if (l.length : Int) ≤ 50 then some (decide ((fs (l.take i) : Int) ≤ 70000)) else some false) = some (fewv l) := by
    intro i hi
    unfold fewv
    by_cases h : l.length ≤ 50
    · rw [if_pos (by omega), decide_eq_true h, Bool.true_and]
      rw [List.take_of_length_le (show l.length ≤ i by omega), List.take_of_length_le (show l.length ≤ 100 by omega)]
      congr 1
      rw [Bool.eq_iff_iff]
      simp only [decide_eq_true_eq]
      omega
    · rw [if_neg (by omega), decide_eq_false h, Bool.false_and]
  induction d with
  | zero =>
    intro i hd hi
    refine Ev.step (f := fun _ => some (fewv l)) (fun k => ?_) (Ev.now _)
    rw [umpireref10_Few.l0]
    by_cases hlt : (i : Int) < (l.length : Int)
    · rw [if_pos hlt, if_neg (by omega), fin i (by omega)]
    · rw [if_neg hlt, fin i (by omega)]
  | succ d ih =>
    intro i hd hi
    have hlt : i < l.length := by omega
    have hf := fs_le (l.take i)
    have hfl : (l.take i).length ≤ 100 := by rw [List.length_take]; omega
    refine Ev.step (f := fun k => umpireref10_Few.l0 k l (fs (l.take (i + 1)) : Int) ((i + 1 : Nat) : Int)) (fun k => ?_) (ih (i + 1) (by omega) (by omega))
    rw [umpireref10_Few.l0, if_pos (by omega), if_pos (by omega), if_pos (by omega), rdN_get l i hlt, fs_next l i hlt]
    have hm : mn (l[i].f2.length : Int) 100000 = ((min l[i].f2.length 100000 : Nat) : Int) := by
      unfold mn
      split <;> omega
    rw [hm, w64 (by omega) (by omega), w64 (by omega) (by omega)]
    rfl
theorem few_spec (l : List Note) (hl : l.length < 140737488355328) : Ev (fun k => umpireref10_Few.f k l) (fewv l) := few_loop l hl _ 0 rfl (by omega)
theorem tot_of_few {l : List Note} (h : fewv l = true) : l.length ≤ 50 ∧ tot l ≤ 70250 ∧ ∀ x ∈ l, x.f2.length ≤ 70000 := by
  unfold fewv at h
  simp only [Bool.and_eq_true, decide_eq_true_eq] at h
  rw [List.take_of_length_le (by omega)] at h
  have hm : ∀ x ∈ l, x.f2.length ≤ 70000 := fun x hx => by
    have := fs_mem hx
    omega
  refine ⟨h.1, ?_, hm⟩
  have key : ∀ m : List Note, (∀ x ∈ m, x.f2.length ≤ 70000) → tot m = fs m + 5 * m.length := by
    intro m
    induction m with
    | nil => intro _; rfl
    | cons a m ih =>
      intro hm
      have h1 := hm a (List.mem_cons_self ..)
      have h2 := ih fun x hx => hm x (List.mem_cons_of_mem _ hx)
      simp only [tot, h2, fs, List.map_cons, List.sum_cons, List.length_cons]
      omega
  have := key l hm
  omega
end Go.Proofs.YtnokndhppdkmdaaDoor.Q

/- The anchor of dump's laws answers true. -/
namespace Go.Proofs.YtnokndhppdkmdaaDoor.Pure
open Go.RowKit Go.Proofs.YtnokndhppdkmdaaDoor.Print Go.Proofs.YtnokndhppdkmdaaDoor.Q Go.Proofs.YtnokndhppdkmdaaDoorW.PrintWords Go.Proofs.YtnokndhppdkmdaaDoorW.PrintLast Go.Proofs.YtnokndhppdkmdaaDoorW.PrintMore

theorem awake_dump : Ev (fun k => umpirelaw10_awake.f k) true := Ev.of (fun k => umpirelaw10_awake.mono k) (k := 40) (by decide +kernel)
end Go.Proofs.YtnokndhppdkmdaaDoor.Pure

/- What came in as data, read as values: one lemma a kind. -/
namespace Go.Proofs.YtnokndhppdkmdaaDoor.Q
open Go Go.RowKit Go.ChangeShapes Go.WideShapes Go.Deep Go.Proofs.YtnokndhppdkmdaaDoorW.PrintWords Go.Proofs.YtnokndhppdkmdaaDoorW.PrintLast Go.Proofs.YtnokndhppdkmdaaDoorW.PrintMore
set_option linter.unusedVariables false

/-- A datum of type t, read as a kind's value; Wf: what is told of it. -/
def Opens {α : Type} (P : Program) (t : TypeId) (d : Kd α) (Wf : α → Prop) : Prop :=
  ∀ (H : Type) (enc : TypeId × Value → H) (w : World) (base : Nat) (held : Bool) (fuel : Nat) (cs : List Value) (x : DataW H × List MemPlace),
    DataW.trod enc P w base (fun _ => true) held fuel t cs = some x → (x.1.weights P t).all (· ≤ reachBytes) = true → ∃ a, d.K w a cs ∧ Wf a

theorem Opens.imp {α : Type} {P : Program} {t : TypeId} {d : Kd α} {Wf Wf' : α → Prop} (h : Opens P t d Wf) (hi : ∀ a, Wf a → Wf' a) : Opens P t d Wf' := by
  intro H enc w base held fuel cs x hx hw
  obtain ⟨a, h1, h2⟩ := h H enc w base held fuel cs x hx hw
  exact ⟨a, h1, hi a h2⟩

theorem Opens.int {P : Program} {t : TypeId} {k : IntKind} (ht : P.underlying t = some (.int k)) : Opens P t (Kd.int k) (fun a => (Lit.int k a).wf = true) := by
  intro H enc w base held fuel cs x h _
  cases fuel with
  | zero => cases h
  | succ fuel =>
    match cs with
    | [.int k' n] =>
      simp only [DataW.trod, ht] at h
      by_cases hk : k' = k ∧ (Lit.int k n).wf = true
      · obtain ⟨rfl, hw⟩ := hk
        exact ⟨n, rfl, hw⟩
      · rw [if_neg hk] at h
        cases h
    | [] => simp [DataW.trod, ht] at h
    | v :: u :: r => simp [DataW.trod, ht] at h
    | [.bool _] => simp [DataW.trod, ht] at h
    | [.float _ _] => simp [DataW.trod, ht] at h
    | [.complex _ _ _] => simp [DataW.trod, ht] at h
    | [.string _] => simp [DataW.trod, ht] at h
    | [.pointer _] => simp [DataW.trod, ht] at h
    | [.slice _ _ _] => simp [DataW.trod, ht] at h
    | [.map _] => simp [DataW.trod, ht] at h
    | [.chan _] => simp [DataW.trod, ht] at h
    | [.func _ _ _] => simp [DataW.trod, ht] at h
    | [.nilFunc] => simp [DataW.trod, ht] at h
    | [.iface _ _] => simp [DataW.trod, ht] at h
    | [.nilIface] => simp [DataW.trod, ht] at h
    | [.agg _] => simp [DataW.trod, ht] at h
    | [.tuple _] => simp [DataW.trod, ht] at h

theorem Opens.bool {P : Program} {t : TypeId} (ht : P.underlying t = some .bool) : Opens P t Kd.bool (fun _ => True) := by
  intro H enc w base held fuel cs x h _
  cases fuel with
  | zero => cases h
  | succ fuel =>
    match cs with
    | [.bool b] => exact ⟨b, rfl, trivial⟩
    | [] => simp [DataW.trod, ht] at h
    | v :: u :: r => simp [DataW.trod, ht] at h
    | [.int _ _] => simp [DataW.trod, ht] at h
    | [.float _ _] => simp [DataW.trod, ht] at h
    | [.complex _ _ _] => simp [DataW.trod, ht] at h
    | [.string _] => simp [DataW.trod, ht] at h
    | [.pointer _] => simp [DataW.trod, ht] at h
    | [.slice _ _ _] => simp [DataW.trod, ht] at h
    | [.map _] => simp [DataW.trod, ht] at h
    | [.chan _] => simp [DataW.trod, ht] at h
    | [.func _ _ _] => simp [DataW.trod, ht] at h
    | [.nilFunc] => simp [DataW.trod, ht] at h
    | [.iface _ _] => simp [DataW.trod, ht] at h
    | [.nilIface] => simp [DataW.trod, ht] at h
    | [.agg _] => simp [DataW.trod, ht] at h
    | [.tuple _] => simp [DataW.trod, ht] at h

theorem Opens.string {P : Program} {t : TypeId} (ht : P.underlying t = some .string) : Opens P t Kd.string (fun s => s.size ≤ 140737488351232) := by
  intro H enc w base held fuel cs x h hw
  cases fuel with
  | zero => cases h
  | succ fuel =>
    match cs with
    | [.string s] =>
      simp only [DataW.trod, ht] at h
      by_cases hs : s.size ≤ maxLen
      · rw [if_pos hs] at h
        cases h
        refine ⟨s, rfl, ?_⟩
        simp [DataW.weights, reachBytes] at hw
        exact of_decide_eq_true hw
      · rw [if_neg hs] at h
        cases h
    | [] => simp [DataW.trod, ht] at h
    | v :: u :: r => simp [DataW.trod, ht] at h
    | [.int _ _] => simp [DataW.trod, ht] at h
    | [.float _ _] => simp [DataW.trod, ht] at h
    | [.complex _ _ _] => simp [DataW.trod, ht] at h
    | [.bool _] => simp [DataW.trod, ht] at h
    | [.pointer _] => simp [DataW.trod, ht] at h
    | [.slice _ _ _] => simp [DataW.trod, ht] at h
    | [.map _] => simp [DataW.trod, ht] at h
    | [.chan _] => simp [DataW.trod, ht] at h
    | [.func _ _ _] => simp [DataW.trod, ht] at h
    | [.nilFunc] => simp [DataW.trod, ht] at h
    | [.iface _ _] => simp [DataW.trod, ht] at h
    | [.nilIface] => simp [DataW.trod, ht] at h
    | [.agg _] => simp [DataW.trod, ht] at h
    | [.tuple _] => simp [DataW.trod, ht] at h

theorem add_add (a : Addr) (m i : Nat) : (a.add m).add i = a.add (m + i) := by
  unfold Addr.add
  by_cases hm : m = 0
  · subst hm
    simp
  · by_cases hi : i = 0
    · subst hi
      simp [hm]
    · simp [hm, hi, Nat.add_assoc]

theorem weightsAll_mem {H : Type} {P : Program} {e : TypeId} {l : List (DataW H)} (h : (DataW.weightsAll P e l).all (· ≤ reachBytes) = true) : ∀ x ∈ l, (x.weights P e).all (· ≤ reachBytes) = true := by
  induction l with
  | nil => intro x hx; cases hx
  | cons a l ih =>
    rw [DataW.weightsAll, List.all_append, Bool.and_eq_true] at h
    intro x hx
    rcases List.mem_cons.1 hx with rfl | hx
    · exact h.1
    · exact ih h.2 x hx

theorem list_of {α : Type} {p : Nat → α → Prop} : ∀ {n : Nat}, (∀ i, i < n → ∃ a, p i a) → ∃ l : List α, l.length = n ∧ ∀ i a, l[i]? = some a → p i a
  | 0, _ => ⟨[], rfl, fun i a h => by simp at h⟩
  | n + 1, h => by
    obtain ⟨l, hl, hp⟩ := list_of (n := n) (fun i hi => h i (by omega))
    obtain ⟨a, ha⟩ := h n (by omega)
    refine ⟨l ++ [a], by simp [hl], fun i b hb => ?_⟩
    by_cases hi : i < l.length
    · rw [List.getElem?_append_left hi] at hb
      exact hp i b hb
    · rw [List.getElem?_append_right (by omega)] at hb
      by_cases h0 : i - l.length = 0
      · rw [h0] at hb
        have e1 : i = n := by omega
        have e2 : a = b := by simpa using hb
        rw [e1, ← e2]
        exact ha
      · obtain ⟨m, hm⟩ : ∃ m, i - l.length = m + 1 := ⟨i - l.length - 1, by omega⟩
        rw [hm] at hb
        simp at hb

theorem Opens.slice {α : Type} {P : Program} {t e : TypeId} {d : Kd α} {Wf : α → Prop} {B : Nat} (ht : P.underlying t = some (.slice e)) (hc : P.cellsOf e = d.sz) (hB : P.bytesOf e = B) (h : Opens P e d Wf) :
    Opens P t (Kd.slice e d) (fun l => l.length * B ≤ 140737488351232 ∧ ∀ a ∈ l, Wf a) := by
  intro H enc w base held fuel cs x hx hw
  rcases open_slice ht hx with ⟨rfl, rfl⟩ | ⟨a, len, cap, m, n, D, Pl, rfl, hb, hl, hm, hmm, rfl, hel⟩
  · exact ⟨[], ⟨none, 0, rfl, Nat.le_refl _, rfl, Nat.zero_le _, fun h0 => absurd h0 (Nat.lt_irrefl 0)⟩, by simp, fun a ha => by cases ha⟩
  · simp only [if_true] at hmm
    subst hmm
    simp only [DataW.weights, ht, List.all_cons, Bool.and_eq_true, List.all_append] at hw
    obtain ⟨hw0, hw1, _⟩ := hw
    have hwe := weightsAll_mem hw1
    have each : ∀ i, i < len → ∃ a' : α, ∃ cs', w.cells? base (a.add (i * P.cellsOf e)) (P.cellsOf e) = some cs' ∧ d.K w a' cs' ∧ Wf a' := by
      intro i hi
      obtain ⟨cs', h1, h2⟩ := hel i (by omega)
      obtain ⟨a', h3, h4⟩ := h H enc w base held n cs' _ h2 (hwe _ (List.mem_map.2 ⟨i, List.mem_range.2 hi, rfl⟩))
      exact ⟨a', cs', h1, h3, h4⟩
    obtain ⟨V, hlV, hV⟩ := list_of each
    have hmax : maxLen = 9223372036854775807 := by decide
    refine ⟨V, ⟨some a, _, by rw [hlV], by omega, ?_⟩, ?_, ?_⟩
    · refine ⟨rfl, by omega, fun _ => ⟨a, rfl, fun j p hp => ?_⟩⟩
      obtain ⟨cs', h1, h2, _⟩ := hV j p hp
      refine ⟨cs', d.K_len h2, h2, fun i u hu => ?_⟩
      rw [hc] at h1
      obtain ⟨_, hlen, hcell⟩ := World.cells?_some h1
      have hi : i < d.sz := by
        have := (List.getElem?_eq_some_iff.1 hu).1
        rw [d.K_len h2] at this
        exact this
      have hci := hcell i hi
      rw [show a.add (j * d.sz + i) = (a.add (j * d.sz)).add i from (add_add a _ _).symm, hci]
      exact hu
    · simp only [List.length_map, List.length_range] at hw0
      simp only [hB, decide_eq_true_eq, reachBytes] at hw0
      refine Nat.le_trans (Nat.mul_le_mul_right _ ?_) hw0
      omega
    · intro a' ha'
      obtain ⟨i, hi, he⟩ := List.getElem_of_mem ha'
      obtain ⟨_, _, _, h4⟩ := hV i a' (by rw [List.getElem?_eq_getElem hi, he])
      exact h4

/-- Fields in line, from the cell 'off' on. -/
def OpensAll {α : Type} (P : Program) (off : Nat) (fs : List Field) (d : Kd α) (Wf : α → Prop) : Prop :=
  ∀ (H : Type) (enc : TypeId × Value → H) (w : World) (base : Nat) (held : Bool) (fuel : Nat) (cs : List Value) (xs : List (DataW H × List MemPlace)),
    (fs.mapM fun f => DataW.trod enc P w base (fun _ => true) held fuel f.type ((cs.drop f.offset).take (P.cellsOf f.type))) = some xs →
    (DataW.weightsEach P (fs.map (·.type)) (xs.map (·.1))).all (· ≤ reachBytes) = true → off + d.sz = cs.length → ∃ a, d.K w a (cs.drop off) ∧ Wf a

theorem OpensAll.one {α : Type} {P : Program} {off : Nat} {f : Field} {d : Kd α} {Wf : α → Prop} (hf : f.offset = off) (hc : P.cellsOf f.type = d.sz) (h : Opens P f.type d Wf) : OpensAll P off [f] d Wf := by
  intro H enc w base held fuel cs xs hx hw hl
  simp only [List.mapM_cons, List.mapM_nil, Option.bind_eq_bind, Option.pure_def, Option.bind_eq_some_iff, Option.some.injEq] at hx
  obtain ⟨x, hx, ys, rfl, rfl⟩ := hx
  rw [hf, hc, List.take_of_length_le (by rw [List.length_drop]; omega)] at hx
  simp only [List.map_cons, List.map_nil, DataW.weightsEach, List.append_nil] at hw
  exact h H enc w base held fuel _ x hx hw

theorem OpensAll.more {α β : Type} {P : Program} {off : Nat} {f : Field} {fs : List Field} {d : Kd α} {d' : Kd β} {Wf : α → Prop} {Wf' : β → Prop} (hf : f.offset = off) (hc : P.cellsOf f.type = d.sz) (h : Opens P f.type d Wf) (h' : OpensAll P (off + d.sz) fs d' Wf') :
    OpensAll P off (f :: fs) (Kd.pair d d') (fun a => Wf a.1 ∧ Wf' a.2) := by
  intro H enc w base held fuel cs xs hx hw hl
  simp only [List.mapM_cons, Option.bind_eq_bind, Option.pure_def, Option.bind_eq_some_iff, Option.some.injEq] at hx
  obtain ⟨x, hx, ys, hys, rfl⟩ := hx
  rw [hf, hc] at hx
  simp only [List.map_cons, DataW.weightsEach, List.all_append, Bool.and_eq_true] at hw
  have hl' : off + (d.sz + d'.sz) = cs.length := hl
  obtain ⟨a, h1, h2⟩ := h H enc w base held fuel _ x hx hw.1
  obtain ⟨b, h3, h4⟩ := h' H enc w base held fuel cs ys hys hw.2 (by omega)
  refine ⟨(a, b), ⟨(cs.drop off).take d.sz, cs.drop (off + d.sz), ?_, h1, h3⟩, h2, h4⟩
  rw [← List.drop_drop, List.take_append_drop]

theorem Opens.struct {α : Type} {P : Program} {t : TypeId} {fs : Array Field} {d : Kd α} {Wf : α → Prop} (ht : P.underlying t = some (.struct fs)) (hc : P.cellsOf t = d.sz) (h : OpensAll P 0 fs.toList d Wf) : Opens P t d Wf := by
  intro H enc w base held fuel cs x hx hw
  cases fuel with
  | zero => cases hx
  | succ fuel =>
    have hx' : (if cs.length = P.cellsOf t then (fs.toList.mapM fun f => DataW.trod enc P w base (fun _ => true) held fuel f.type ((cs.drop f.offset).take (P.cellsOf f.type))).map fun xs => (.agg (xs.map (·.1)), xs.flatMap (·.2)) else none) = some x := by
      simpa only [DataW.trod, ht] using hx
    by_cases hl : cs.length = P.cellsOf t
    · rw [if_pos hl, Option.map_eq_some_iff] at hx'
      obtain ⟨xs, hxs, rfl⟩ := hx'
      simp only [DataW.weights, ht] at hw
      have := h H enc w base held fuel cs xs hxs hw (by omega)
      simpa using this
    · rw [if_neg hl] at hx'
      cases hx'

theorem Opens.iso {α β : Type} {P : Program} {t : TypeId} {d : Kd α} {Wf : α → Prop} (f : β → α) (g : α → β) (hg : ∀ a, f (g a) = a) (h : Opens P t d Wf) : Opens P t (Kd.iso d f) (fun b => Wf (f b)) := by
  intro H enc w base held fuel cs x hx hw
  obtain ⟨a, h1, h2⟩ := h H enc w base held fuel cs x hx hw
  exact ⟨g a, show d.K w (f (g a)) cs by rw [hg]; exact h1, show Wf (f (g a)) by rw [hg]; exact h2⟩
end Go.Proofs.YtnokndhppdkmdaaDoor.Q

/- The package-level variable dump.forms, listed by the rows: its cells, read as a row of structs; and that the door's own heap meets the condition. -/
namespace Go.Proofs.YtnokndhppdkmdaaDoor.Q
open Go.ChangeShapes Go.WideShapes Go.ChangeAt Go.RowKit Go.Proofs.YtnokndhppdkmdaaDoorW.PrintWords
set_option linter.unusedVariables false

def laidF : List (String × DataW Unit) := [("umpire/dump.forms", Rows.laid_umpire_dump_forms)]
theorem gForms : Tryd.prog.globalNamed "umpire/dump.forms" = some 0 := by kernel_rfl
theorem tForms : (Tryd.prog.globals[0]?).map (·.type) = some 50 := by kernel_rfl
/-- The door's own heap meets the condition. -/
theorem door_met (os : Os) (args : Array Value) : laidMetH Tryd.prog laidF ((World.doorLaid Tryd.prog 400 os).forCall (fun _ _ => 0) ⟨#[], args, []⟩).memory :=
  laidMetH_of_parts3 (fuel := 8) (laidMet_of_run' 8 (by kernel_rfl) (by kernel_rfl)) (by kernel_rfl) (by kernel_rfl)
theorem form_cells {H : Type} {enc : TypeId × Value → H} {w : World} {base : Nat} {sp : Nat → Bool} {held : Bool} {fuel : Nat} {cs : List Value} {x : DataW H × List MemPlace} {b : Bool} {n : Int}
    (h : DataW.trod enc Tryd.prog w base sp held fuel 49 cs = some x) (hx : x.1 = .agg [.lit (.bool b), .lit (.int .i64 n)]) : cs = [.bool b, .int .i64 n] := by
  obtain ⟨xs, m, rfl, rfl, hl, hxs, hel⟩ := DataW.trod_struct Tryd.underlying49 h
  have c4 : Tryd.prog.cellsOf 4 = 1 := by kernel_rfl
  have c3 : Tryd.prog.cellsOf 3 = 1 := by kernel_rfl
  have c49 : Tryd.prog.cellsOf 49 = 2 := by kernel_rfl
  rw [c49] at hl
  match cs, hl with
  | [u, v], _ =>
    have h0 : DataW.trod enc Tryd.prog w base sp held m 4 (([u, v].drop 0).take (Tryd.prog.cellsOf 4)) = xs[0]? := hel 0 _ rfl
    have h1 : DataW.trod enc Tryd.prog w base sp held m 3 (([u, v].drop 1).take (Tryd.prog.cellsOf 3)) = xs[1]? := hel 1 _ rfl
    rw [c4] at h0
    rw [c3] at h1
    match xs, hxs, hx, h0, h1 with
    | [x0, x1], _, hx, h0, h1 =>
      simp only [DataW.agg.injEq, List.map_cons, List.map_nil, List.cons.injEq, and_true] at hx
      obtain ⟨b', e1, e2⟩ := DataW.trod_bool Tryd.underlying4 (show DataW.trod _ Tryd.prog _ _ _ _ _ 4 [u] = some x0 from h0)
      obtain ⟨n', e3, e4, _⟩ := DataW.trod_int Tryd.underlying3 (show DataW.trod _ Tryd.prog _ _ _ _ _ 3 [v] = some x1 from h1)
      rw [e2, e4] at hx
      simp only [DataW.lit.injEq, Lit.bool.injEq, Lit.int.injEq, true_and] at hx
      injection e1 with e1
      injection e3 with e3
      rw [e1, e3, hx.1, hx.2]
theorem laid_forms {W : World} (h : laidMetH Tryd.prog laidF W) : Kd.C Print.k49 W (some ⟨0, 0, none⟩) 8 Print.formsG0 := by
  rw [MakeChecks.laidMetH_plain _ _ _ (by kernel_rfl)] at h
  obtain ⟨ps, ⟨g0, t0, cs0, f0, p0, q0, hg0, ht0, hv0, hd0, _, _⟩, _⟩ := h
  obtain rfl := Option.some.inj (gForms.symm.trans hg0)
  obtain rfl := Option.some.inj (tForms.symm.trans ht0)
  obtain ⟨xs, m, rfl, hx, hlen, hn, hel⟩ := DataW.trod_array Tryd.underlying50 hd0
  have c49 : Tryd.prog.cellsOf 49 = 2 := by kernel_rfl
  have c50 : Tryd.prog.cellsOf 50 = 16 := by kernel_rfl
  rw [c50] at hlen
  simp only [c49] at hel
  simp only [Prod.mk.injEq, Rows.laid_umpire_dump_forms, DataW.agg.injEq] at hx
  have key : ∀ i, i < 8 → (cs0.toList.drop (i * 2)).take 2 = [.bool (Print.formsG0.getD i Print.z49).f0, .int .i64 (Print.formsG0.getD i Print.z49).f1] := by
    intro i hi
    have h1 := hel i hi
    have h2 : xs[i]? = some (xs[i]'(by omega)) := List.getElem?_eq_getElem (by omega)
    rw [h2] at h1
    refine form_cells h1 ?_
    have h3 : (xs.map (·.1))[i]? = some (xs[i]'(by omega)).1 := by rw [List.getElem?_map, h2]; rfl
    rw [← hx.1] at h3
    rcases i with _ | _ | _ | _ | _ | _ | _ | _ | i
    all_goals first | exact (Option.some.inj h3).symm | omega
  refine ⟨rfl, by decide, fun _ => ⟨_, rfl, fun j p hp => ?_⟩⟩
  have hj : j < 8 := by
    have := (List.getElem?_eq_some_iff.1 hp).1
    exact this
  have hp' : Print.formsG0.getD j Print.z49 = p := by rw [List.getD_eq_getElem?_getD, hp]; rfl
  have hk := key j hj
  rw [hp'] at hk
  refine ⟨[.bool p.f0, .int .i64 p.f1], rfl, Print.k49_mk W p, fun i u hu => ?_⟩
  rw [← hk] at hu
  have hi : i < 2 := by
    have := (List.getElem?_eq_some_iff.1 hu).1
    simp at this
    omega
  rw [List.getElem?_take, if_pos hi, List.getElem?_drop] at hu
  have hc := World.var?_cell hg0 hv0 (j * 2 + i)
  rw [Go.Proofs.YtnokndhppdkmdaaDoorW.PrintWords.add_plain, show (Print.k49).sz = 2 from rfl, hc]
  simpa using hu
end Go.Proofs.YtnokndhppdkmdaaDoor.Q
