/- The functions of octet's reference, told by lists: Put and Get. -/
import Derived.Test.YtnokndhppdkmdaaDoorQBase
import Derived.Test.YtnokndhppdkmdaaDoorF26
namespace Go.Proofs.YtnokndhppdkmdaaDoor.Q
open Go.RowKit Go.Proofs.YtnokndhppdkmdaaDoor.Print Go.Proofs.YtnokndhppdkmdaaDoorW.PrintWords Go.Proofs.YtnokndhppdkmdaaDoorW.PrintLast Go.Proofs.YtnokndhppdkmdaaDoorW.PrintMore
set_option linter.unusedVariables false
set_option linter.unusedSimpArgs false

theorem leb_drop (n : Int) (i : Nat) : ∀ s : Nat, leb n (i + s) = leb n i ++ leb (n / 256 ^ i) s := by
  induction i generalizing n with
  | zero => intro s; simp [leb]
  | succ i ih =>
    intro s
    rw [show i + 1 + s = (i + s) + 1 by omega, leb, ih (n / 256) s, leb, List.cons_append, Int.pow_succ, Int.mul_comm, Int.ediv_ediv_of_nonneg (by decide)]
theorem rput_loop (n : Int) (h0 : 0 ≤ n) (h1 : n < 18446744073709551616) (s : Nat) (hs : s ≤ 8) (big : Bool) (d : Nat) : ∀ (i : Nat), s - i = d → i ≤ s →
    Ev (fun k => umpireref02_Put.l0 k (n / 256 ^ i) (s : Int) big (putb n i big) (i : Int)) (putb n s big) := by
  induction d with
  | zero =>
    intro i hd hi
    obtain rfl : i = s := by omega
    refine Ev.step (f := fun _ => some (putb n i big)) (fun k => ?_) (Ev.now _)
    rw [umpireref02_Put.l0, if_neg (by omega)]
  | succ d ih =>
    intro i hd hi
    refine Ev.step (f := fun k => umpireref02_Put.l0 k (n / 256 ^ (i + 1)) (s : Int) big (putb n (i + 1) big) ((i + 1 : Nat) : Int)) (fun k => ?_) (ih (i + 1) (by omega) (by omega))
    have hq0 : 0 ≤ n / 256 ^ i := Int.ediv_nonneg h0 (Int.le_of_lt (Int.pow_pos (by decide)))
    have hq1 : n / 256 ^ i ≤ n := Int.ediv_le_self _ h0
    have hdv : IntKind.u64.wrap (Int.tdiv (n / 256 ^ i) 256) = n / 256 ^ (i + 1) := by
      rw [Int.tdiv_eq_ediv_of_nonneg hq0, Int.ediv_ediv_of_nonneg (Int.le_of_lt (Int.pow_pos (by decide))), ← Int.pow_succ, wu64s]
      · exact Int.ediv_nonneg h0 (Int.le_of_lt (Int.pow_pos (by decide)))
      · exact Int.lt_of_le_of_lt (Int.ediv_le_self _ h0) h1
    have hmd : Int.tmod (n / 256 ^ i) 256 % 256 = n / 256 ^ i % 256 := by
      rw [Int.tmod_eq_emod_of_nonneg hq0]
      omega
    have hl : (putb n i big).length = i := putb_length _ _ _
    rw [umpireref02_Put.l0, if_pos (by omega), hdv, hmd, w64 (by omega) (by omega)]
    cases big
    · simp only [Bool.false_eq_true, if_false]
      rw [if_pos (by omega)]
      have : putb n i false ++ [n / 256 ^ i % 256] = putb n (i + 1) false := by
        unfold putb
        simp only [Bool.false_eq_true, if_false]
        rw [leb_snoc]
      rw [this]
      rfl
    · simp only [if_true, Option.bind_some]
      rw [if_pos (by simp [hl]; omega)]
      have : [n / 256 ^ i % 256] ++ putb n i true = putb n (i + 1) true := by
        unfold putb
        simp only [if_true]
        rw [leb_snoc, List.reverse_append]
        rfl
      rw [this]
      rfl
theorem rput_spec (n : Int) (s : Nat) (big : Bool) (h0 : 0 ≤ n) (h1 : n < 18446744073709551616) (hs : s ≤ 8) : Ev (fun k => umpireref02_Put.f k n (s : Int) big) (putb n s big) := by
  have := rput_loop n h0 h1 s hs big s 0 (by omega) (by omega)
  have e : putb n 0 big = [] := by unfold putb; cases big <;> rfl
  rw [e] at this
  simp only [Int.pow_zero, Int.ediv_one] at this
  exact this

end Go.Proofs.YtnokndhppdkmdaaDoor.Q
