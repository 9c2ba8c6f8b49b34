/- Has and Apart of accm's reference, told by bits. -/
import Derived.Test.YtjpfhipgffmgjaaQAccmHas
import Derived.Test.YtjpfhipgffmgjaaF28
namespace Go.Proofs.Ytjpfhipgffmgjaa.Q
open Go.RowKit Go.Proofs.Ytjpfhipgffmgjaa.Print Go.Proofs.YtjpfhipgffmgjaaW.PrintWords Go.Proofs.YtjpfhipgffmgjaaW.PrintLast Go.Proofs.YtjpfhipgffmgjaaW.PrintMore
set_option linter.unusedVariables false
set_option linter.unusedSimpArgs false

theorem rhas_loop (m : Int) (h0 : 0 ≤ m) (h1 : m < 4294967296) (c : Nat) (hc : c < 32) (d : Nat) : ∀ i : Nat, c - i = d → i ≤ c →
    Ev (fun k => umpireref05_Has.l0 k (m / 2 ^ i) (c : Int) (i : Int)) (m.toNat.testBit c) := by
  induction d with
  | zero =>
    intro i hd hi
    obtain rfl : i = c := by omega
    have hq0 : 0 ≤ m / 2 ^ i := Int.ediv_nonneg h0 (Int.le_of_lt (Int.pow_pos (by decide)))
    refine Ev.step (f := fun _ => some (m.toNat.testBit i)) (fun k => ?_) (Ev.now _)
    rw [umpireref05_Has.l0, if_neg (by omega), Int.tmod_eq_emod_of_nonneg hq0, bit_of m h0]
  | succ d ih =>
    intro i hd hi
    have hq0 : 0 ≤ m / 2 ^ i := Int.ediv_nonneg h0 (Int.le_of_lt (Int.pow_pos (by decide)))
    have hq1 : m / 2 ^ i ≤ m := Int.ediv_le_self _ h0
    refine Ev.step (f := fun k => umpireref05_Has.l0 k (m / 2 ^ (i + 1)) (c : Int) ((i + 1 : Nat) : Int)) (fun k => ?_) (ih (i + 1) (by omega) (by omega))
    rw [umpireref05_Has.l0, if_pos (by omega), Int.tdiv_eq_ediv_of_nonneg hq0, Int.emod_eq_of_lt (by omega) (by omega), Int.ediv_ediv_of_nonneg (Int.le_of_lt (Int.pow_pos (by decide))), ← Int.pow_succ, show ((i : Int) + 1) % 256 = ((i + 1 : Nat) : Int) by omega]
theorem rhas_spec (m c : Int) (h0 : 0 ≤ m) (h1 : m < 4294967296) (hc : 0 ≤ c) : Ev (fun k => umpireref05_Has.f k m c) (hasv m c) := by
  unfold umpireref05_Has.f hasv
  by_cases a : c > 31
  · simp only [a, if_true]
    rw [show decide (c < 32) = false by simp; omega]
    exact Ev.now _
  · simp only [a, if_false]
    rw [show decide (c < 32) = true by simp; omega]
    have := rhas_loop m h0 h1 c.toNat (by omega) c.toNat 0 (by omega) (by omega)
    rw [show ((c.toNat : Nat) : Int) = c by omega] at this
    simpa using this
theorem rapart_spec (m c : Int) (h0 : 0 ≤ m) (h1 : m < 4294967296) (hc : 0 ≤ c) : Ev (fun k => umpireref05_Apart.f k m c) (apartv m c) := by
  unfold umpireref05_Apart.f apartv
  by_cases a : c = 125
  · simp only [a, if_true]
    exact Ev.now _
  · by_cases b : c = 126
    · simp only [a, b, if_true, if_false]
      exact Ev.now _
    · simp only [a, b, if_false]
      have := Ev.bind (rhas_spec m c h0 h1 hc) (Ev.now (hasv m c))
      simpa using this
end Go.Proofs.Ytjpfhipgffmgjaa.Q
