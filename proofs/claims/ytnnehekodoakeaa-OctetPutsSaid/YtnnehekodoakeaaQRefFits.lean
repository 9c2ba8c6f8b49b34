/- Fits of octet's reference. -/
import Derived.Test.YtnnehekodoakeaaQOctet
import Derived.Test.YtnnehekodoakeaaF30
namespace Go.Proofs.Ytnnehekodoakeaa.Q
open Go.RowKit Go.Proofs.Ytnnehekodoakeaa.Print Go.Proofs.YtnnehekodoakeaaW.PrintWords Go.Proofs.YtnnehekodoakeaaW.PrintLast Go.Proofs.YtnnehekodoakeaaW.PrintMore
set_option linter.unusedVariables false
set_option linter.unusedSimpArgs false

theorem rfits_loop (n : Int) (h0 : 0 ≤ n) (h1 : n < 18446744073709551616) (s : Nat) (hs : s ≤ 8) (d : Nat) : ∀ i : Nat, s - i = d → i ≤ s →
    Ev (fun k => umpireref02_Fits.l0 k (n / 256 ^ i) (s : Int) (i : Int)) (decide (n < 256 ^ s)) := by
  induction d with
  | zero =>
    intro i hd hi
    obtain rfl : i = s := by omega
    refine Ev.step (f := fun _ => some (decide (n < 256 ^ i))) (fun k => ?_) (Ev.now _)
    rw [umpireref02_Fits.l0, if_neg (by omega)]
    congr 1
    rw [Bool.eq_iff_iff, beq_iff_eq, decide_eq_true_iff]
    exact div_zero h0 (Int.pow_pos (by decide))
  | succ d ih =>
    intro i hd hi
    have hq0 : 0 ≤ n / 256 ^ i := Int.ediv_nonneg h0 (Int.le_of_lt (Int.pow_pos (by decide)))
    have hdv : IntKind.u64.wrap (Int.tdiv (n / 256 ^ i) 256) = n / 256 ^ (i + 1) := by
      rw [Int.tdiv_eq_ediv_of_nonneg hq0, Int.ediv_ediv_of_nonneg (Int.le_of_lt (Int.pow_pos (by decide))), ← Int.pow_succ, wu64s]
      · exact Int.ediv_nonneg h0 (Int.le_of_lt (Int.pow_pos (by decide)))
      · exact Int.lt_of_le_of_lt (Int.ediv_le_self _ h0) h1
    refine Ev.step (fun k => ?_) (ih (i + 1) (by omega) (by omega))
    rw [umpireref02_Fits.l0, if_pos (by omega), hdv, w64 (by omega) (by omega)]
    rfl
theorem rfits_spec (n s : Int) (h0 : 0 ≤ n) (h1 : n < 18446744073709551616) : Ev (fun k => umpireref02_Fits.f k n s) (fits n s) := by
  unfold umpireref02_Fits.f fits
  by_cases a : s < 1
  · simp only [a, if_true]
    rw [show decide (1 ≤ s) = false by simp; omega]
    refine Ev.step (f := fun _ => some false) (fun k => ?_) (Ev.now _)
    rw [umpireref02_Fits.j0, if_pos rfl]
  · simp only [a, if_false]
    rw [show decide (1 ≤ s) = true by simp; omega]
    by_cases b : s > 8
    · rw [show decide (s ≤ 8) = false by simp; omega]
      refine Ev.step (f := fun _ => some false) (fun k => ?_) (Ev.now _)
      rw [umpireref02_Fits.j0, if_pos (by simpa using b)]
    · rw [show decide (s ≤ 8) = true by simp; omega]
      refine Ev.step (f := fun k => umpireref02_Fits.l0 k n s 0) (fun k => ?_) ?_
      · rw [umpireref02_Fits.j0, if_neg (by simpa using b)]
      · have := rfits_loop n h0 h1 s.toNat (by omega) s.toNat 0 (by omega) (by omega)
        rw [show ((s.toNat : Nat) : Int) = s by omega] at this
        simpa using this
end Go.Proofs.Ytnnehekodoakeaa.Q
