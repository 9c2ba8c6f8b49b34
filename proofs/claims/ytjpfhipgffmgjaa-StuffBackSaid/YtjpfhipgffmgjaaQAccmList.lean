/- List of accm, told by bits. -/
import Derived.Test.YtjpfhipgffmgjaaQAccmHas
import Derived.Test.YtjpfhipgffmgjaaF19
namespace Go.Proofs.Ytjpfhipgffmgjaa.Q
open Go.RowKit Go.Proofs.Ytjpfhipgffmgjaa.Print Go.Proofs.YtjpfhipgffmgjaaW.PrintWords Go.Proofs.YtjpfhipgffmgjaaW.PrintLast Go.Proofs.YtjpfhipgffmgjaaW.PrintMore
set_option linter.unusedVariables false
set_option linter.unusedSimpArgs false

/-- A map's characters from i on. -/
def charsFrom (m : Int) (i : Nat) : List Int := ((List.range' i (32 - i)).filter (fun c => m.toNat.testBit c)).map fun c : Nat => (c : Int)
/-- A map's characters. -/
def chars (m : Int) : List Int := charsFrom m 0
theorem charsFrom_step (m : Int) (i : Nat) (h : i < 32) : charsFrom m i = (if m.toNat.testBit i then [(i : Int)] else []) ++ charsFrom m (i + 1) := by
  unfold charsFrom
  rw [show 32 - i = (32 - (i + 1)) + 1 by omega, List.range'_succ, List.filter_cons]
  by_cases a : m.toNat.testBit i = true
  · simp [a]
  · simp [a]
theorem chars_mem (m : Int) (i : Nat) (c : Int) : c ∈ charsFrom m i ↔ ∃ j : Nat, c = (j : Int) ∧ i ≤ j ∧ j < 32 ∧ m.toNat.testBit j = true := by
  unfold charsFrom
  simp only [List.mem_map, List.mem_filter, List.mem_range'_1]
  constructor
  · rintro ⟨j, ⟨⟨h1, h2⟩, h3⟩, rfl⟩
    exact ⟨j, rfl, h1, by omega, h3⟩
  · rintro ⟨j, rfl, h1, h2, h3⟩
    exact ⟨j, ⟨⟨h1, by omega⟩, h3⟩, rfl⟩
theorem chars_bytes (m : Int) (i : Nat) : Bytes (charsFrom m i) := by
  intro c hc
  obtain ⟨j, rfl, _, h, _⟩ := (chars_mem m i c).1 hc
  omega
theorem charsFrom_len (m : Int) (i : Nat) : (charsFrom m i).length ≤ 32 - i := by
  unfold charsFrom
  rw [List.length_map]
  have := List.length_filter_le (fun c => m.toNat.testBit c) (List.range' i (32 - i))
  rw [List.length_range'] at this
  exact this
theorem list_loop (m : Int) (h0 : 0 ≤ m) (h1 : m < 4294967296) (d : Nat) : ∀ (i : Nat) (acc : List Int), 32 - i = d → i ≤ 32 → acc.length ≤ i →
    Ev (fun k => accm_List.l0 k m acc (i : Int)) (acc ++ charsFrom m i) := by
  induction d with
  | zero =>
    intro i acc hd hi ha
    refine Ev.step (f := fun _ => some (acc ++ charsFrom m i)) (fun k => ?_) (Ev.now _)
    rw [accm_List.l0, if_neg (by omega)]
    obtain rfl : i = 32 := by omega
    simp [charsFrom]
  | succ d ih =>
    intro i acc hd hi ha
    refine Ev.step (f := fun k => accm_List.l0 k m (acc ++ (if m.toNat.testBit i then [(i : Int)] else [])) ((i + 1 : Nat) : Int)) (fun k => ?_) ?_
    · rw [accm_List.l0, if_pos (by omega), has_spec m i h0 h1 (by omega)]
      simp only [Option.bind_some]
      have hh : hasv m (i : Int) = m.toNat.testBit i := by
        unfold hasv
        simp
        omega
      rw [hh, show ((i : Int) + 1) % 256 = ((i + 1 : Nat) : Int) by omega]
      by_cases a : m.toNat.testBit i = true
      · simp only [a, if_true]
        rw [if_pos (by omega)]
      · simp [a]
    · rw [charsFrom_step m i (by omega), ← List.append_assoc]
      refine ih (i + 1) _ (by omega) (by omega) ?_
      rw [List.length_append]
      split <;> simp <;> omega
theorem list_spec (m : Int) (h0 : 0 ≤ m) (h1 : m < 4294967296) : Ev (fun k => accm_List.f k m) (chars m) := by
  have := list_loop m h0 h1 32 0 [] (by omega) (by omega) (by simp)
  exact this
theorem chars_rise (m : Int) : (chars m).Pairwise (· < ·) := by
  unfold chars charsFrom
  rw [List.pairwise_map]
  refine List.Pairwise.imp ?_ (List.Pairwise.filter _ List.pairwise_lt_range')
  intro a b h
  omega
theorem bit_high (m : Int) (h0 : 0 ≤ m) (h1 : m < 4294967296) (j : Nat) (hj : 32 ≤ j) : m.toNat.testBit j = false :=
  Nat.testBit_lt_two_pow (Nat.lt_of_lt_of_le (by omega : m.toNat < 2 ^ 32) (Nat.pow_le_pow_right (by decide) hj))
/-- Maps of the same bits are one. -/
theorem map_ext {m n : Int} (hm : 0 ≤ m) (hn : 0 ≤ n) (h : ∀ j, m.toNat.testBit j = n.toNat.testBit j) : m = n := by
  have := Nat.eq_of_testBit_eq h
  omega
end Go.Proofs.Ytjpfhipgffmgjaa.Q
