/- Seal and Open of fcs's reference. -/
import Derived.Test.YtnokndhppdkmdaaQRefFcs
import Derived.Test.YtnokndhppdkmdaaF17
namespace Go.Proofs.Ytnokndhppdkmdaa.Q
open Go.RowKit Go.Proofs.Ytnokndhppdkmdaa.Print Go.Proofs.YtnokndhppdkmdaaW.PrintWords Go.Proofs.YtnokndhppdkmdaaW.PrintLast Go.Proofs.YtnokndhppdkmdaaW.PrintMore
set_option linter.unusedVariables false
set_option linter.unusedSimpArgs false

theorem rseal_loop (wide : Bool) (d : Nat) : ∀ (i : Nat) (acc : List Int) (n : Int), sizeN wide = i + d → acc.length + d < 140737488355328 → 0 ≤ n → n < 4294967296 →
    Ev (fun k => umpireref04_Seal.l0 k wide acc n (i : Int)) (acc ++ leb n d) := by
  have h4 := sizeN_le wide
  induction d with
  | zero =>
    intro i acc n hs ha hn hn1
    refine Ev.step (f := fun _ => some (acc ++ leb n 0)) (fun k => ?_) (Ev.now _)
    rw [umpireref04_Seal.l0, rsize_nat, Option.bind_some, if_neg (by omega)]
    simp [leb]
  | succ d ih =>
    intro i acc n hs ha hn hn1
    have next := ih (i + 1) (acc ++ [n % 256]) (n / 256) (by omega) (by simp; omega) (by omega) (by omega)
    rw [List.append_assoc] at next
    refine Ev.step (fun k => ?_) next
    have e1 : Int.tmod n 256 % 256 = n % 256 := by
      rw [Int.tmod_eq_emod_of_nonneg hn]
      omega
    have e2 : Int.tdiv n 256 % 4294967296 = n / 256 := by
      rw [Int.tdiv_eq_ediv_of_nonneg hn]
      omega
    rw [umpireref04_Seal.l0, rsize_nat, Option.bind_some, if_pos (by omega), if_pos (by omega), e1, e2, w64 (by omega) (by omega)]
    rfl
theorem rseal_spec (l : List Int) (wide : Bool) (hl : Bytes l) (hn : l.length ≤ 100000) : Ev (fun k => umpireref04_Seal.f k l wide) (sealv l wide) := by
  have h4 := sizeN_le wide
  have h := rseal_loop wide (sizeN wide) 0 l (ofN l wide : Int) (by omega) (by omega) (by omega) (by have := lt32 (of_lt l wide hl); omega)
  unfold umpireref04_Seal.f
  simp only [List.length_nil, Nat.zero_add, List.nil_append, show l.length < 140737488355328 by omega, if_true]
  exact Ev.bind (rof_spec l wide hl hn) h
theorem ropen_spec (l : List Int) (wide : Bool) (hl : Bytes l) (hn : l.length ≤ 100000) : Ev (fun k => umpireref04_Open.f k l wide) (openv l wide) := by
  have h4 := sizeN_le wide
  unfold umpireref04_Open.f
  rw [rsize_nat]
  simp only [Option.bind_some]
  rw [w64 (by omega) (by omega)]
  by_cases hs : sizeN wide ≤ l.length
  · have e : ((l.length : Int) - (sizeN wide : Int)).toNat = l.length - sizeN wide := by omega
    simp only [e, show ¬ ((l.length : Int) - (sizeN wide : Int) < 0) by omega, show (0 : Int) ≤ (l.length : Int) - (sizeN wide : Int) by omega, show (l.length : Int) - (sizeN wide : Int) ≤ (l.length : Int) by omega, if_true, if_false]
    refine Ev.bind (rseal_spec (l.take (l.length - sizeN wide)) wide (hl.take _) (by rw [List.length_take]; omega)) ?_
    have g := goodv_iff l wide hl hs
    have i := strOf_iff (sealv_bytes (hl.take (l.length - sizeN wide)) wide) hl
    unfold openv
    by_cases c : goodv l wide = true
    · rw [if_pos (i.2 (g.1 c)), if_pos c, if_pos (by rw [List.length_nil, List.length_take]; omega), List.nil_append]
      exact Ev.now _
    · rw [if_neg (fun h => c (g.2 (i.1 h))), if_neg c]
      exact Ev.now _
  · simp only [show ((l.length : Int) - (sizeN wide : Int) < 0) by omega, if_true]
    unfold openv goodv
    simp only [hs, decide_false, Bool.false_and, Bool.false_eq_true, if_false]
    exact Ev.now _
end Go.Proofs.Ytnokndhppdkmdaa.Q
