/- Has and Apart of accm, told by bits. -/
import Derived.Test.YtjpfhipgffmgjaaQBase
import Derived.Test.YtjpfhipgffmgjaaF36
namespace Go.Proofs.Ytjpfhipgffmgjaa.Q
open Go.RowKit Go.Proofs.Ytjpfhipgffmgjaa.Print Go.Proofs.YtjpfhipgffmgjaaW.PrintWords Go.Proofs.YtjpfhipgffmgjaaW.PrintLast Go.Proofs.YtjpfhipgffmgjaaW.PrintMore
set_option linter.unusedVariables false
set_option linter.unusedSimpArgs false

/-- Is the character in the map? -/
def hasv (m c : Int) : Bool := decide (c < 32) && m.toNat.testBit c.toNat
theorem toNat_div (m : Int) (h : 0 ≤ m) (j : Nat) : (m / 2 ^ j) = ((m.toNat / 2 ^ j : Nat) : Int) := by
  obtain ⟨n, rfl⟩ := Int.eq_ofNat_of_zero_le h
  simp
theorem bit_of (m : Int) (h : 0 ≤ m) (j : Nat) : ((m / 2 ^ j) % 2 == 1) = m.toNat.testBit j := by
  rw [Nat.testBit_eq_decide_div_mod_eq, toNat_div m h]
  rw [Bool.eq_iff_iff, beq_iff_eq, decide_eq_true_iff]
  omega
theorem has_spec (m c : Int) (h0 : 0 ≤ m) (h1 : m < 4294967296) (hc : 0 ≤ c) : accm_Has.f m c = some (hasv m c) := by
  unfold accm_Has.f hasv
  by_cases a : c < 32
  · rw [if_pos a, if_pos hc]
    have hs : shr .u32 m c = m / 2 ^ c.toNat := by
      unfold shr
      rw [Nat.min_eq_left (by simp [IntKind.bits]; omega)]
    have hq0 : 0 ≤ m / 2 ^ c.toNat := Int.ediv_nonneg h0 (Int.le_of_lt (Int.pow_pos (by decide)))
    have hq1 : m / 2 ^ c.toNat ≤ m := Int.ediv_le_self _ h0
    rw [hs, u32_low hq0 (by omega), bit_of m h0]
    simp [a]
  · rw [if_neg a]
    simp [a]
/-- Is the byte told apart? -/
def apartv (m c : Int) : Bool := decide (c = 125) || (decide (c = 126) || hasv m c)
theorem apart_spec (m c : Int) (h0 : 0 ≤ m) (h1 : m < 4294967296) (hc : 0 ≤ c) : accm_Apart.f m c = some (apartv m c) := by
  unfold accm_Apart.f apartv
  rw [has_spec m c h0 h1 hc]
  by_cases a : c = 125
  · simp [a]
  · by_cases b : c = 126
    · simp [b]
    · simp [a, b]

end Go.Proofs.Ytjpfhipgffmgjaa.Q
