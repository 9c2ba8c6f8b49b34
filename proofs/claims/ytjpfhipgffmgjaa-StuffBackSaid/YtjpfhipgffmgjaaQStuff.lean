/- The functions of stuff, told by lists. -/
import Derived.Test.YtjpfhipgffmgjaaQAccmHas
import Derived.Test.YtjpfhipgffmgjaaF14
import Derived.Test.YtjpfhipgffmgjaaF15
import Derived.Test.YtjpfhipgffmgjaaF16
namespace Go.Proofs.Ytjpfhipgffmgjaa.Q
open Go.RowKit Go.Proofs.Ytjpfhipgffmgjaa.Print Go.Proofs.YtjpfhipgffmgjaaW.PrintWords Go.Proofs.YtjpfhipgffmgjaaW.PrintLast Go.Proofs.YtjpfhipgffmgjaaW.PrintMore
set_option linter.unusedVariables false
set_option linter.unusedSimpArgs false

/-- A byte, turned. -/
def turnv (c : Int) : Int := Go.bits .xor .u8 c 32
theorem turnv_nat (n : Nat) (h : n < 256) : turnv (n : Int) = ((n ^^^ 32 : Nat) : Int) := by
  have h1 : n ^^^ 32 < 2 ^ 8 := Nat.xor_lt_two_pow (by simpa using h) (by decide)
  have e2 : (BitVec.ofNat 8 n ^^^ 32#8).toNat = n ^^^ 32 := by
    rw [BitVec.toNat_xor, BitVec.toNat_ofNat, Nat.mod_eq_of_lt (show n < 2 ^ 8 by simpa using h)]
    rfl
  have e3 := wraps_u8 (((n ^^^ 32 : Nat) : Int)) (by omega) (by exact_mod_cast h1)
  rw [← e2] at e3
  rw [← e2]
  exact e3
theorem turnv_range {c : Int} (h : 0 ≤ c ∧ c < 256) : 0 ≤ turnv c ∧ turnv c < 256 := by
  obtain ⟨n, rfl⟩ := Int.eq_ofNat_of_zero_le h.1
  have h1 : n ^^^ 32 < 2 ^ 8 := Nat.xor_lt_two_pow (by omega) (by decide)
  rw [turnv_nat n (by omega)]
  omega
theorem turnv_turnv {c : Int} (h : 0 ≤ c ∧ c < 256) : turnv (turnv c) = c := by
  obtain ⟨n, rfl⟩ := Int.eq_ofNat_of_zero_le h.1
  have h1 : n ^^^ 32 < 2 ^ 8 := Nat.xor_lt_two_pow (by omega) (by decide)
  rw [turnv_nat n (by omega), turnv_nat _ (by omega), Nat.xor_assoc, Nat.xor_self, Nat.xor_zero]
/-- What a byte is, stuffed. -/
def piecev (m c : Int) : List Int := if apartv m c = true then [125, turnv c] else [c]
/-- Bytes, stuffed. -/
def stuffv (l : List Int) (m : Int) : List Int := (l.map (piecev m)).flatten
theorem piece_eq (m c : Int) (h0 : 0 ≤ m) (h1 : m < 4294967296) (hc : 0 ≤ c) : stuff_Stuff.piece m c = piecev m c := by
  unfold stuff_Stuff.piece piecev turnv
  rw [apart_spec m c h0 h1 hc]
  rfl
theorem piece_eq2 (m c : Int) (h0 : 0 ≤ m) (h1 : m < 4294967296) (hc : 0 ≤ c) : stuff_Size.piece m c = piecev m c := by
  unfold stuff_Size.piece piecev turnv
  rw [apart_spec m c h0 h1 hc]
  rfl
theorem piecev_len (m c : Int) : 1 ≤ (piecev m c).length ∧ (piecev m c).length ≤ 2 := by
  unfold piecev
  split <;> simp
theorem stuffv_nil (m : Int) : stuffv [] m = [] := rfl
theorem stuffv_cons (c : Int) (l : List Int) (m : Int) : stuffv (c :: l) m = piecev m c ++ stuffv l m := by simp [stuffv]
theorem stuffv_append (a b : List Int) (m : Int) : stuffv (a ++ b) m = stuffv a m ++ stuffv b m := by simp [stuffv]
theorem stuffv_len (l : List Int) (m : Int) : l.length ≤ (stuffv l m).length ∧ (stuffv l m).length ≤ 2 * l.length := by
  induction l with
  | nil => simp [stuffv]
  | cons c l ih =>
    have := piecev_len m c
    rw [stuffv_cons, List.length_append, List.length_cons]
    omega
theorem stuffv_bytes {l : List Int} (h : Bytes l) (m : Int) : Bytes (stuffv l m) := by
  induction l with
  | nil => exact Bytes.nil
  | cons c l ih =>
    rw [stuffv_cons]
    refine Bytes.append ?_ (ih (fun x hx => h x (by simp [hx])))
    have hc := h c (by simp)
    unfold piecev
    split
    · exact Bytes.cons (by omega) (Bytes.cons (turnv_range hc) Bytes.nil)
    · exact Bytes.cons hc Bytes.nil
theorem stuff_spec (l : List Int) (m : Int) (hb : Bytes l) (h0 : 0 ≤ m) (h1 : m < 4294967296) (hl : l.length < 70368744177664) : stuff_Stuff.f l m = some (stuffv l m) := by
  have hm : l.map (stuff_Stuff.piece m) = l.map (piecev m) := List.map_congr_left (fun c hc => piece_eq m c h0 h1 (hb c hc).1)
  have := (stuffv_len l m).2
  unfold stuff_Stuff.f
  rw [hm]
  rw [if_pos]
  · rfl
  · refine ⟨List.all_eq_true.2 (fun c hc => ?_), by unfold stuffv at this; omega⟩
    rw [apart_spec m c h0 h1 (hb c hc).1]
    rfl
theorem size_spec (l : List Int) (m : Int) (hb : Bytes l) (h0 : 0 ≤ m) (h1 : m < 4294967296) (hl : l.length < 70368744177664) : stuff_Size.f l m = some ((stuffv l m).length : Int) := by
  have hm : l.map (stuff_Size.piece m) = l.map (piecev m) := List.map_congr_left (fun c hc => piece_eq2 m c h0 h1 (hb c hc).1)
  have := (stuffv_len l m).2
  unfold stuff_Size.f
  rw [hm]
  rw [if_pos]
  · rfl
  · refine ⟨List.all_eq_true.2 (fun c hc => ?_), by unfold stuffv at this; omega⟩
    rw [apart_spec m c h0 h1 (hb c hc).1]
    rfl
/-- Bytes, unstuffed: whether one stands behind 0x7d; what came so far. -/
def unst (m : Int) : List Int → Bool → List Int → List Int × Bool
  | [], b, acc => if b then ([], false) else (acc, true)
  | c :: t, b, acc => if c = 126 then ([], false) else if hasv m c = true then unst m t b acc else if b then unst m t false (acc ++ [turnv c]) else if c = 125 then unst m t true acc else unst m t b (acc ++ [c])
def unstuffv (l : List Int) (m : Int) : List Int × Bool := unst m l false []
theorem unst_loop (m : Int) (h0 : 0 ≤ m) (h1 : m < 4294967296) (l : List Int) (hb : Bytes l) (hl : l.length < 70368744177664) (d : Nat) : ∀ (i : Nat) (b : Bool) (acc : List Int), l.length - i = d → i ≤ l.length → acc.length ≤ i →
    Ev (fun k => stuff_Unstuff.l0 k m acc b l (l.length : Int) (i : Int)) (unst m (l.drop i) b acc) := by
  induction d with
  | zero =>
    intro i b acc hd hi ha
    refine Ev.step (f := fun _ => some (unst m (l.drop i) b acc)) (fun k => ?_) (Ev.now _)
    rw [stuff_Unstuff.l0, if_neg (by omega), List.drop_of_length_le (by omega)]
    unfold unst
    cases b <;> simp
  | succ d ih =>
    intro i b acc hd hi ha
    have hil : i < l.length := by omega
    have hc := hb _ (List.getElem_mem hil)
    rw [List.drop_eq_getElem_cons hil]
    unfold unst
    by_cases e1 : l[i] = 126
    · refine Ev.step (f := fun _ => some (([] : List Int), false)) (fun k => ?_) ?_
      · rw [stuff_Unstuff.l0, if_pos (by omega), if_pos (by omega), if_pos (by omega), rd_get i hil, if_pos e1]
      · rw [if_pos e1]
        exact Ev.now _
    · rw [if_neg e1]
      by_cases e2 : hasv m l[i] = true
      · rw [if_pos e2]
        refine Ev.step (fun k => ?_) (ih (i + 1) b acc (by omega) (by omega) (by omega))
        rw [stuff_Unstuff.l0, if_pos (by omega), if_pos (by omega), if_pos (by omega), rd_get i hil, if_neg e1, has_spec m _ h0 h1 hc.1]
        simp only [Option.bind_some, e2, if_true]
        rw [w64 (by omega) (by omega)]
        rfl
      · rw [if_neg e2]
        by_cases e3 : b = true
        · rw [if_pos e3]
          refine Ev.step (fun k => ?_) (ih (i + 1) false (acc ++ [turnv l[i]]) (by omega) (by omega) (by simp; omega))
          rw [stuff_Unstuff.l0, if_pos (by omega), if_pos (by omega), if_pos (by omega), rd_get i hil, if_neg e1, has_spec m _ h0 h1 hc.1]
          simp only [Option.bind_some, e2, e3, Bool.false_eq_true, if_true, if_false]
          rw [if_pos (by omega), w64 (by omega) (by omega)]
          rfl
        · rw [if_neg e3]
          by_cases e4 : l[i] = 125
          · rw [if_pos e4]
            refine Ev.step (fun k => ?_) (ih (i + 1) true acc (by omega) (by omega) (by omega))
            rw [stuff_Unstuff.l0, if_pos (by omega), if_pos (by omega), if_pos (by omega), rd_get i hil, if_neg e1, has_spec m _ h0 h1 hc.1]
            simp only [Option.bind_some, e2, e3, e4, Bool.false_eq_true, if_true, if_false]
            rw [w64 (by omega) (by omega)]
            rfl
          · rw [if_neg e4]
            refine Ev.step (fun k => ?_) (ih (i + 1) b (acc ++ [l[i]]) (by omega) (by omega) (by simp; omega))
            rw [stuff_Unstuff.l0, if_pos (by omega), if_pos (by omega), if_pos (by omega), rd_get i hil, if_neg e1, has_spec m _ h0 h1 hc.1]
            simp only [Option.bind_some, e2, e3, e4, Bool.false_eq_true, if_true, if_false]
            rw [if_pos (by omega), w64 (by omega) (by omega)]
            rfl
theorem unstuff_spec (l : List Int) (m : Int) (hb : Bytes l) (h0 : 0 ≤ m) (h1 : m < 4294967296) (hl : l.length < 70368744177664) : Ev (fun k => stuff_Unstuff.f k l m) (unstuffv l m) := by
  have := unst_loop m h0 h1 l hb hl l.length 0 false [] (by omega) (by omega) (by simp)
  exact this
end Go.Proofs.Ytjpfhipgffmgjaa.Q
