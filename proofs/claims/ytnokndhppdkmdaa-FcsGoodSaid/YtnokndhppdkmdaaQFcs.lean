/- The functions of fcs, told by registers over naturals. -/
import Derived.Test.YtnokndhppdkmdaaQCrc
import Derived.Test.YtnokndhppdkmdaaF16
import Derived.Test.YtnokndhppdkmdaaF19
namespace Go.Proofs.Ytnokndhppdkmdaa.Q
open Go.RowKit Go.Proofs.Ytnokndhppdkmdaa.Print Go.Proofs.YtnokndhppdkmdaaW.PrintWords Go.Proofs.YtnokndhppdkmdaaW.PrintLast Go.Proofs.YtnokndhppdkmdaaW.PrintMore
set_option linter.unusedVariables false
set_option linter.unusedSimpArgs false

theorem bits_u32_xor {a b : Nat} (ha : a < 4294967296) (hb : b < 4294967296) : Go.bits .xor .u32 (a : Int) (b : Int) = ((a ^^^ b : Nat) : Int) := by
  have h1 : a ^^^ b < 2 ^ 32 := Nat.xor_lt_two_pow (by omega) (by omega)
  have e2 : (BitVec.ofNat 32 a ^^^ BitVec.ofNat 32 b).toNat = a ^^^ b := by
    rw [BitVec.toNat_xor, BitVec.toNat_ofNat, BitVec.toNat_ofNat, Nat.mod_eq_of_lt (show a < 2 ^ 32 by omega), Nat.mod_eq_of_lt (show b < 2 ^ 32 by omega)]
  have e3 := wu32s (x := ((a ^^^ b : Nat) : Int)) (by omega) (by omega)
  rw [← e2] at e3
  rw [← e2]
  exact e3
theorem bits_u8_xor {a b : Nat} (ha : a < 256) (hb : b < 256) : Go.bits .xor .u8 (a : Int) (b : Int) = ((a ^^^ b : Nat) : Int) := by
  have h1 : a ^^^ b < 2 ^ 8 := Nat.xor_lt_two_pow (by omega) (by omega)
  have e2 : (BitVec.ofNat 8 a ^^^ BitVec.ofNat 8 b).toNat = a ^^^ b := by
    rw [BitVec.toNat_xor, BitVec.toNat_ofNat, BitVec.toNat_ofNat, Nat.mod_eq_of_lt (by simpa using ha), Nat.mod_eq_of_lt (by simpa using hb)]
  have e3 := wraps_u8 (((a ^^^ b : Nat) : Int)) (by omega) (by omega)
  rw [← e2] at e3
  rw [← e2]
  exact e3
theorem bit_nat (p n : Nat) (hp : p < 2 ^ 32) (hn : n < 2 ^ 32) : fcs_table.bit (p : Int) (n : Int) = ((S p n : Nat) : Int) := by
  unfold fcs_table.bit S
  rw [u32_low (by omega) (by omega), show ((n : Int) / 2) = ((n / 2 : Nat) : Int) by omega]
  by_cases h : n % 2 = 1
  · rw [if_pos (by omega), if_pos h, bits_u32_xor (by omega) (by omega)]
  · rw [if_neg (by omega), if_neg h]
theorem bitn_nat (p n k : Nat) (hp : p < 2 ^ 32) (hn : n < 2 ^ 32) : fcs_table.bitn (p : Int) k (n : Int) = ((Sn p k n : Nat) : Int) := by
  induction k with
  | zero => rfl
  | succ k ih => rw [fcs_table.bitn, ih, bit_nat _ _ hp (Sn_lt k hp hn)]; rfl
theorem by_nat (wide : Bool) : fcs_table.by wide = (byN wide : Int) := by cases wide <;> rfl
theorem byN_32 (wide : Bool) : byN wide < 2 ^ 32 := by cases wide <;> decide
theorem allN_32 (wide : Bool) : allN wide < 4294967296 := by cases wide <;> decide
theorem all_spec (wide : Bool) : fcs_all.f wide = some (allN wide : Int) := by cases wide <;> rfl
theorem size_nat (wide : Bool) : fcs_Size.f wide = some (sizeN wide : Int) := by cases wide <;> rfl
theorem stp_nat (p r : Nat) (c : Int) (hp : p < 2 ^ 32) (hr : r < 2 ^ 32) (hc : 0 ≤ c ∧ c < 256) : fcs_More.stp (p : Int) (r : Int) c = ((stpN p r c : Nat) : Int) := by
  obtain ⟨n, rfl⟩ := Int.eq_ofNat_of_zero_le hc.1
  have h1 : r % 256 ^^^ n < 2 ^ 8 := Nat.xor_lt_two_pow (by omega) (by omega)
  have h2 : r % 256 ^^^ n < 2 ^ 32 := by omega
  unfold fcs_More.stp stpN
  rw [show ((r : Int) % 256) = ((r % 256 : Nat) : Int) by omega, bits_u8_xor (by omega) (by omega), bitn_nat _ _ _ hp h2, show ((r : Int) / 256) = ((r / 256 : Nat) : Int) by omega, Int.toNat_natCast]
  exact bits_u32_xor (by omega) (Sn_lt 8 hp h2)
theorem fold_nat (p : Nat) (hp : p < 2 ^ 32) (l : List Int) (hl : Bytes l) : ∀ r : Nat, r < 2 ^ 32 → l.foldl (fcs_More.stp (p : Int)) (r : Int) = ((moreN p r l : Nat) : Int) := by
  induction l with
  | nil => intro r hr; rfl
  | cons c l ih =>
    intro r hr
    have hc := hl c (by simp)
    rw [List.foldl_cons, stp_nat p r c hp hr hc, ih (fun x hx => hl x (by simp [hx])) _ (stpN_lt (by decide) hp hr hc)]
    rfl
theorem and_all (n : Nat) (wide : Bool) : n &&& allN wide = n % 2 ^ wid wide := Nat.and_two_pow_sub_one_eq_mod n (wid wide)
theorem more_spec (n : Nat) (l : List Int) (wide : Bool) (hn : n < 4294967296) (hl : Bytes l) : fcs_More.f (n : Int) l wide = some ((moreN (byN wide) (n % 2 ^ wid wide) l : Nat) : Int) := by
  unfold fcs_More.f
  rw [all_spec, Option.bind_some, by_nat, bits_u32_and hn (allN_32 wide), and_all, fold_nat _ (byN_32 wide) l hl]
  have : n % 2 ^ wid wide ≤ n := Nat.mod_le _ _
  omega
theorem all_mod (wide : Bool) : allN wide % 2 ^ wid wide = allN wide := Nat.mod_eq_of_lt (allN_lt wide)
theorem more_all (l : List Int) (wide : Bool) (hl : Bytes l) : fcs_More.f (allN wide : Int) l wide = some ((moreN (byN wide) (allN wide) l : Nat) : Int) := by
  have := more_spec (allN wide) l wide (allN_32 wide) hl
  rwa [all_mod] at this
theorem lt32 {n : Nat} {wide : Bool} (h : n < 2 ^ wid wide) : n < 4294967296 := by
  have : 2 ^ wid wide ≤ 2 ^ 32 := Nat.pow_le_pow_right (by decide) (wid_le wide)
  omega
theorem of_spec (l : List Int) (wide : Bool) (hl : Bytes l) : fcs_Of.f l wide = some ((ofN l wide : Nat) : Int) := by
  unfold fcs_Of.f
  simp only [all_spec, more_all l wide hl, Option.bind_some]
  rw [bits_u32_xor (lt32 (more_lt l wide _ (allN_lt wide) hl)) (allN_32 wide)]
  rfl
/-- Bytes, sealed. -/
def sealv (l : List Int) (wide : Bool) : List Int := l ++ leb (ofN l wide : Int) (sizeN wide)
theorem sealv_bytes {l : List Int} (h : Bytes l) (wide : Bool) : Bytes (sealv l wide) := h.append (leb_bytes _ _)
theorem sealv_length (l : List Int) (wide : Bool) : (sealv l wide).length = l.length + sizeN wide := by
  unfold sealv
  rw [List.length_append, leb_length]
theorem sizeN_le (wide : Bool) : sizeN wide ≤ 4 := by cases wide <;> decide
theorem seal_loop (d : Nat) : ∀ (i s : Nat) (acc : List Int) (n : Int), s = i + d → s ≤ 4 → acc.length + d < 140737488355328 → 0 ≤ n →
    Ev (fun k => fcs_Seal.l0 k acc n (s : Int) (i : Int)) (acc ++ leb n d) := by
  induction d with
  | zero =>
    intro i s acc n hs h4 ha hn
    refine Ev.step (f := fun _ => some (acc ++ leb n 0)) (fun k => ?_) (Ev.now _)
    rw [fcs_Seal.l0, if_neg (by omega)]
    simp [leb]
  | succ d ih =>
    intro i s acc n hs h4 ha hn
    have next := ih (i + 1) s (acc ++ [n % 256]) (n / 256) (by omega) h4 (by simp; omega) (by omega)
    rw [List.append_assoc] at next
    refine Ev.step (fun k => ?_) next
    rw [fcs_Seal.l0, if_pos (by omega), if_pos (by omega), w64 (by omega) (by omega)]
    rfl
theorem seal_spec (l : List Int) (wide : Bool) (hl : Bytes l) (hn : l.length ≤ 100000) : Ev (fun k => fcs_Seal.f k l wide) (sealv l wide) := by
  have h4 := sizeN_le wide
  unfold fcs_Seal.f
  refine Ev.bind (Ev.const (show slices_Clone_byte_byte.f l = some l by unfold slices_Clone_byte_byte.f; rw [if_pos (by omega)])) ?_
  simp only [of_spec l wide hl, size_nat, Option.bind_some]
  exact seal_loop (sizeN wide) 0 (sizeN wide) l (ofN l wide : Int) (by omega) h4 (by omega) (by omega)
def goodv (l : List Int) (wide : Bool) : Bool := decide (sizeN wide ≤ l.length) && decide (moreN (byN wide) (allN wide) l = goodN wide)
theorem good_spec (l : List Int) (wide : Bool) (hl : Bytes l) : fcs_Good.f l wide = some (goodv l wide) := by
  unfold fcs_Good.f goodv
  simp only [size_nat, all_spec, more_all l wide hl, Option.bind_some]
  by_cases h : sizeN wide ≤ l.length
  · have h' : (l.length : Int) ≥ (sizeN wide : Int) := by omega
    simp only [h, h', decide_true, Bool.true_and, if_true]
    have e : ∀ a b : Nat, ((a : Int) == (b : Int)) = decide (a = b) := fun a b => by
      rw [Bool.eq_iff_iff, beq_iff_eq, decide_eq_true_iff]
      omega
    cases wide
    · simp only [Bool.false_eq_true, if_false]
      exact congrArg some (e _ 61624)
    · simp only [if_true]
      exact congrArg some (e _ 3736805603)
  · have h' : ¬ (l.length : Int) ≥ (sizeN wide : Int) := by omega
    simp only [h, h', decide_false, Bool.false_and, if_false]
    cases wide <;> rfl
def openv (l : List Int) (wide : Bool) : List Int × Bool := if goodv l wide = true then (l.take (l.length - sizeN wide), true) else ([], false)
theorem open_spec (l : List Int) (wide : Bool) (hl : Bytes l) (hn : l.length ≤ 100000) : fcs_Open.f l wide = some (openv l wide) := by
  unfold fcs_Open.f openv
  rw [good_spec l wide hl, Option.bind_some]
  have h4 := sizeN_le wide
  by_cases h : goodv l wide = true
  · have hs : sizeN wide ≤ l.length := by
      unfold goodv at h
      simp only [Bool.and_eq_true, decide_eq_true_eq] at h
      exact h.1
    rw [if_pos h, if_pos h, size_nat, Option.bind_some, w64 (by omega) (by omega), if_pos (by omega), if_pos (by omega), show (((l.length : Int) - (sizeN wide : Int)).toNat) = l.length - sizeN wide by omega]
    unfold slices_Clone_byte_byte.f
    rw [if_pos (by rw [List.length_take]; omega)]
    rfl
  · rw [if_neg h, if_neg h]
/-- What is good is sealed, and what is sealed is good. -/
theorem goodv_iff (l : List Int) (wide : Bool) (hl : Bytes l) (hs : sizeN wide ≤ l.length) : goodv l wide = true ↔ sealv (l.take (l.length - sizeN wide)) wide = l := by
  have e := List.take_append_drop (l.length - sizeN wide) l
  have h := good_iff (l.take (l.length - sizeN wide)) (l.drop (l.length - sizeN wide)) wide (hl.take _) (hl.drop _) (by rw [List.length_drop]; omega)
  rw [e] at h
  unfold goodv
  simp only [hs, decide_true, Bool.true_and, decide_eq_true_eq]
  rw [h]
  unfold sealv
  constructor
  · intro h1
    rw [← h1, e]
  · intro h1
    have h2 : l.take (l.length - sizeN wide) ++ leb (ofN (l.take (l.length - sizeN wide)) wide : Int) (sizeN wide) = l.take (l.length - sizeN wide) ++ l.drop (l.length - sizeN wide) := by rw [h1, e]
    exact (List.append_cancel_left h2).symm
theorem good_sealv (l : List Int) (wide : Bool) (hl : Bytes l) : goodv (sealv l wide) wide = true := by
  rw [goodv_iff _ _ (sealv_bytes hl wide) (by rw [sealv_length]; omega), sealv_length, Nat.add_sub_cancel]
  congr 1
  unfold sealv
  simp
theorem open_sealv (l : List Int) (wide : Bool) (hl : Bytes l) : openv (sealv l wide) wide = (l, true) := by
  unfold openv
  rw [if_pos (good_sealv l wide hl), sealv_length, Nat.add_sub_cancel]
  unfold sealv
  simp
end Go.Proofs.Ytnokndhppdkmdaa.Q
