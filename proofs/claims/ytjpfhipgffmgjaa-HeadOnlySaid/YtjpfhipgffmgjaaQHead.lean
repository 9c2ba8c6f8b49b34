/- The functions of head, told by lists. -/
import Derived.Test.YtjpfhipgffmgjaaQBehind
import Derived.Test.YtjpfhipgffmgjaaF27
import Derived.Test.YtjpfhipgffmgjaaF21
namespace Go.Proofs.Ytjpfhipgffmgjaa.Q
open Go.RowKit Go.Proofs.Ytjpfhipgffmgjaa.Print Go.Proofs.YtjpfhipgffmgjaaW.PrintWords Go.Proofs.YtjpfhipgffmgjaaW.PrintLast Go.Proofs.YtjpfhipgffmgjaaW.PrintMore
set_option linter.unusedVariables false
set_option linter.unusedSimpArgs false

theorem i64_wrap {n : Int} (h0 : 0 ≤ n) (h1 : n < 2 ^ 63) : IntKind.i64.wrap n = n := by
  rw [IntKind.wrap_i64]
  have : (2 : Int) ^ 63 = 9223372036854775808 := by decide
  omega
theorem i64_low {x : Int} (h0 : 0 ≤ x) (h1 : x < 65536) : Go.bits .and .i64 x 1 = x % 2 := by
  have := bits_mask .i64 63 (by decide) (fun n h0 h1 => i64_wrap h0 h1) 1 (by decide) x h0 (Int.lt_trans h1 (by decide))
  simpa using this
theorem u8_low {x : Int} (h0 : 0 ≤ x) (h1 : x < 256) : Go.bits .and .u8 x 1 = x % 2 := by
  have := bits_mask .u8 8 (by decide) wraps_u8 1 (by decide) x h0 (by simpa using h1)
  simpa using this
theorem i64_nine {x : Int} (h0 : 0 ≤ x) (h1 : x < 65536) : (Go.bits .and .i64 x 256 = 0) ↔ x / 256 % 2 = 0 := by
  obtain ⟨n, rfl⟩ := Int.eq_ofNat_of_zero_le h0
  have h := (bits_nat .i64 63 (by decide) (fun n h0 h1 => i64_wrap h0 h1) n 256 (Nat.lt_trans (by omega : n < 65536) (by decide)) (by decide)).1
  have e : ((256 : Nat) : Int) = 256 := rfl
  rw [e] at h
  rw [h]
  have hb : n.testBit 8 = decide (n / 256 % 2 = 1) := Nat.testBit_eq_decide_div_mod_eq
  have ht : (n &&& 256).testBit 8 = n.testBit 8 := by
    rw [Nat.testBit_and, show (256 : Nat) = 2 ^ 8 from rfl, Nat.testBit_two_pow]
    simp
  constructor
  · intro hz
    have hz' : n &&& 256 = 0 := by omega
    rw [hz', Nat.zero_testBit, hb] at ht
    have : ¬ (n / 256 % 2 = 1) := of_decide_eq_false ht.symm
    omega
  · intro hz
    have hf : n.testBit 8 = false := by
      rw [hb]
      exact decide_eq_false (by omega)
    have : n &&& 256 = 0 := by
      apply Nat.eq_of_testBit_eq
      intro i
      rw [Nat.testBit_and, show (256 : Nat) = 2 ^ 8 from rfl, Nat.testBit_two_pow, Nat.zero_testBit]
      by_cases c : 8 = i
      · subst c
        simp [hf]
      · simp [c]
    rw [this]
    rfl
theorem i64_or8 {a b : Int} (ha : 0 ≤ a ∧ a < 256) (hb : 0 ≤ b ∧ b < 256) : Go.bits .or .i64 (wrap64 (wrap64 a * 256)) (wrap64 b) = 256 * a + b := by
  rw [w64 (x := a) (by omega) (by omega), w64 (x := b) (by omega) (by omega), w64 (x := a * 256) (by omega) (by omega)]
  rw [bits_join .i64 63 (by decide) (fun n h0 h1 => i64_wrap h0 h1) 8 (a * 256) b (by omega) (by omega) (Int.lt_trans (by omega : a * 256 < 65536) (by decide)) hb.1 (by simpa using hb.2) (Int.lt_trans (by omega : b < 65536) (by decide))]
  omega
/-- May a protocol be? -/
def mayv (p : Int) : Bool := decide (1 ≤ p ∧ p ≤ 65535 ∧ p % 2 = 1 ∧ p / 256 % 2 = 0 ∧ p ≠ 255)
theorem may_spec (p : Int) : head_May.f p = some (mayv p) := by
  unfold head_May.f mayv
  by_cases a : p ≥ 1
  · rw [if_pos a]
    by_cases b : p ≤ 65535
    · rw [if_pos b, i64_low (by omega) (by omega)]
      by_cases c : p % 2 = 1
      · rw [if_pos c]
        by_cases d : p / 256 % 2 = 0
        · rw [if_pos ((i64_nine (by omega) (by omega)).2 d)]
          congr 1
          rw [Bool.eq_iff_iff, bne_iff_ne, decide_eq_true_iff]
          exact ⟨fun h => ⟨a, b, c, d, h⟩, fun h => h.2.2.2.2⟩
        · rw [if_neg (fun h => d ((i64_nine (by omega) (by omega)).1 h))]
          simp [d]
      · rw [if_neg c]
        simp [c]
    · rw [if_neg b]
      simp [b]
  · rw [if_neg a]
    simp [a]
/-- How a frame begins with a protocol. -/
def headv (p : Int) (full short : Bool) : List Int := (if full then [255, 3] else []) ++ (if short = true ∧ p < 256 then [p % 256] else [p / 256 % 256, p % 256])
theorem hput_spec (p : Int) (full short : Bool) : head_Put.f p full short = some (if mayv p then (headv p full short, 0) else ([], 1)) := by
  unfold head_Put.f
  rw [may_spec]
  simp only [Option.bind_some]
  by_cases m : mayv p = true
  · simp only [m, if_true]
    unfold headv
    cases full <;> cases short <;> simp
    all_goals (split <;> simp)
  · simp only [m]
    simp
/-- What stands where a protocol is to stand. -/
def protoAt (rest : List Int) (at_ : Int) : Int × Int × Int :=
  match rest with
  | [] => (0, 0, 2)
  | a :: t => if a % 2 = 1 then (if a = 255 then (0, 0, 3) else (a, at_ + 1, 0)) else
    match t with
    | [] => (0, 0, 2)
    | b :: _ => if b % 2 = 0 ∨ (a = 0 ∧ b = 255) then (0, 0, 3) else (256 * a + b, at_ + 2, 0)
/-- The beginning of a frame. -/
def readv (l : List Int) : Int × Int × Int :=
  match l with
  | [] => (0, 0, 2)
  | a :: t => if a = 255 then (match t with | [] => (0, 0, 2) | b :: r => if b = 3 then protoAt r 2 else (0, 0, 3)) else protoAt (a :: t) 0
theorem rd0 (a : Int) (t : List Int) : rd (a :: t) 0 = a := rfl
theorem rd1 (a b : Int) (t : List Int) : rd (a :: b :: t) 1 = b := rfl
theorem may_byte {a : Int} (h : 0 ≤ a ∧ a < 256) (o : a % 2 = 1) : mayv a = decide (a ≠ 255) := by
  unfold mayv
  rw [Bool.eq_iff_iff, decide_eq_true_iff, decide_eq_true_iff]
  omega
theorem may_two {a b : Int} (ha : 0 ≤ a ∧ a < 256) (hb : 0 ≤ b ∧ b < 256) (e : a % 2 ≠ 1) : mayv (256 * a + b) = decide (¬ (b % 2 = 0 ∨ (a = 0 ∧ b = 255))) := by
  unfold mayv
  rw [Bool.eq_iff_iff, decide_eq_true_iff, decide_eq_true_iff]
  omega
theorem read_j0 (at_ : Int) (h0 : 0 ≤ at_) (h1 : at_ ≤ 2) (a : Int) (t : List Int) (hb : Bytes (a :: t)) : Ev (fun k => head_Read.j0 k at_ (a :: t) (decide (a % 2 = 1 ∧ a ≠ 255))) (protoAt (a :: t) at_) := by
  have ha := hb a (by simp)
  refine Ev.step (f := fun _ => some (protoAt (a :: t) at_)) (fun k => ?_) (Ev.now _)
  rw [head_Read.j0]
  unfold protoAt
  by_cases o : a % 2 = 1
  · by_cases f : a = 255
    · subst f
      simp [rd0, u8_low]
    · rw [if_pos (by simpa using ⟨o, f⟩), if_pos (by simp <;> omega), rd0, w64 (by omega) (by omega), w64 (by omega) (by omega)]
      simp [o, f]
  · rw [if_neg (by simp [o]), if_pos (by simp <;> omega), rd0, u8_low ha.1 ha.2, if_neg o]
    cases t with
    | nil => simp [o]
    | cons b r =>
      have hbb := hb b (by simp)
      rw [if_neg (by simp <;> omega), if_pos (by simp <;> omega), rd1, i64_or8 ha hbb, may_spec, may_two ha hbb o]
      simp only [Option.bind_some]
      by_cases c : b % 2 = 0 ∨ (a = 0 ∧ b = 255)
      · simp [c, o]
      · simp only [c, o, not_false_eq_true, decide_true, if_true, if_false]
        rw [w64 (by omega) (by omega)]
theorem begin_spec (l : List Int) : head_begin.f l = some (match l with | [] => (0, 2) | a :: t => if a = 255 then (match t with | [] => (0, 2) | b :: _ => if b = 3 then (2, 0) else (0, 3)) else (0, 0)) := by
  unfold head_begin.f
  cases l with
  | nil => rfl
  | cons a t =>
    rw [if_neg (by simp <;> omega), if_pos (by simp <;> omega), rd0]
    by_cases c : a = 255
    · rw [if_pos c]
      cases t with
      | nil => simp [c]
      | cons b r =>
        rw [if_neg (by simp <;> omega), if_pos (by simp <;> omega), rd1]
        by_cases d : b = 3 <;> simp [c, d]
    · rw [if_neg c]
      simp [c]
theorem read_rest (l rest : List Int) (at_ : Nat) (hr : l.drop at_ = rest) (hat : at_ ≤ 2) (hal : at_ ≤ l.length) (hb : Bytes rest)
    (hf : head_begin.f l = some ((at_ : Int), 0)) : Ev (fun k => head_Read.f k l) (protoAt rest at_) := by
  unfold head_Read.f
  rw [hf]
  simp only [Option.bind_some, if_true, show (0 : Int) ≤ (at_ : Int) by omega, show (at_ : Int) ≤ (l.length : Int) by omega, Int.toNat_natCast, hr]
  cases rest with
  | nil =>
    simp only [List.length_nil, show ((0 : Nat) : Int) = 0 from rfl, if_true]
    exact Ev.now _
  | cons a t =>
    have ha := hb a (by simp)
    have hj := read_j0 (at_ : Int) (by omega) (by omega) a t hb
    simp only [show ¬ (((a :: t).length : Int) = 0) by simp <;> omega, show (0 : Int) < ((a :: t).length : Int) by simp <;> omega, if_true, if_false, rd0, u8_low ha.1 ha.2]
    by_cases o : a % 2 = 1
    · simp only [o, if_true, w64 (x := a) (by omega) (by omega), may_spec, Option.bind_some, may_byte ha o]
      simp only [o, true_and] at hj
      exact hj
    · simp only [o, if_false]
      simp only [o, false_and, decide_false] at hj
      exact hj
theorem read_spec (l : List Int) (hb : Bytes l) : Ev (fun k => head_Read.f k l) (readv l) := by
  have hf := begin_spec l
  have no : ∀ e : Int, e ≠ 0 → head_begin.f l = some (0, e) → Ev (fun k => head_Read.f k l) (0, 0, e) := by
    intro e he h
    unfold head_Read.f
    rw [h]
    simp only [Option.bind_some, he, if_false]
    exact Ev.now _
  cases l with
  | nil => exact no 2 (by decide) hf
  | cons a t =>
    unfold readv
    by_cases c : a = 255
    · simp only [c, if_true] at hf ⊢
      cases t with
      | nil => subst c; exact no 2 (by decide) hf
      | cons b r =>
        by_cases d : b = 3
        · simp only [d, if_true] at hf ⊢
          subst c d
          exact read_rest _ r 2 rfl (by decide) (by simp) (fun x hx => hb x (by simp [hx])) hf
        · simp only [d, if_false] at hf ⊢
          subst c
          exact no 3 (by decide) hf
    · simp only [c, if_false] at hf ⊢
      exact read_rest _ (a :: t) 0 rfl (by decide) (by simp) hb hf
/-- A frame's protocol, and what it carries. -/
def bodyv (l : List Int) : Int × List Int × Int := if (readv l).2.2 = 0 then ((readv l).1, l.drop (readv l).2.1.toNat, 0) else (0, [], (readv l).2.2)
theorem body_spec (l : List Int) (hb : Bytes l) (hl : l.length < 140737488355328) : Ev (fun k => head_Body.f k l) (bodyv l) := by
  unfold head_Body.f bodyv
  refine Ev.bind (read_spec l hb) ?_
  by_cases c : (readv l).2.2 = 0
  · simp only [c, if_true, behind_spec l _ hl, Option.bind_some]
    exact Ev.now _
  · simp only [c, if_false]
    exact Ev.now _
theorem protoAt_le (r : List Int) (at_ : Int) (h : (protoAt r at_).2.2 = 0) : (protoAt r at_).2.1 ≤ at_ + r.length ∧ at_ + 1 ≤ (protoAt r at_).2.1 := by
  unfold protoAt at h ⊢
  cases r with
  | nil => simp at h
  | cons a t =>
    by_cases o : a % 2 = 1
    · by_cases f : a = 255
      · simp [f] at h
      · simp [o, f]
        omega
    · simp only [o, if_false] at h ⊢
      cases t with
      | nil => simp at h
      | cons b s =>
        by_cases c : b % 2 = 0 ∨ (a = 0 ∧ b = 255)
        · simp [c] at h
        · simp [c]
          omega
theorem readv_le (l : List Int) (h : (readv l).2.2 = 0) : (readv l).2.1 ≤ l.length ∧ 1 ≤ (readv l).2.1 := by
  unfold readv at h ⊢
  cases l with
  | nil => simp at h
  | cons a t =>
    by_cases c : a = 255
    · simp only [c, if_true] at h ⊢
      cases t with
      | nil => simp at h
      | cons b r =>
        by_cases d : b = 3
        · simp only [d, if_true] at h ⊢
          have := protoAt_le r 2 h
          simp only [List.length_cons]
          omega
        · simp [d] at h
    · simp only [c, if_false] at h ⊢
      have := protoAt_le (a :: t) 0 h
      omega
end Go.Proofs.Ytjpfhipgffmgjaa.Q
