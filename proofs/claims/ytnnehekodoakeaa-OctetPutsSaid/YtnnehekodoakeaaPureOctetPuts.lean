/- The law OctetPuts, over numbers: for every number, size and order octet.Fits and octet.Put answer as the reference does; no conditions. -/
import Derived.Test.YtnnehekodoakeaaQRefFits
import Derived.Test.YtnnehekodoakeaaQRefOct
import Derived.Test.YtnnehekodoakeaaQAwakeOctet
import Derived.Test.YtnnehekodoakeaaF8
namespace Go.Proofs.Ytnnehekodoakeaa.Pure
open Go.RowKit Go.Proofs.Ytnnehekodoakeaa.Print Go.Proofs.Ytnnehekodoakeaa.Q Go.Proofs.YtnnehekodoakeaaW.PrintWords Go.Proofs.YtnnehekodoakeaaW.PrintLast Go.Proofs.YtnnehekodoakeaaW.PrintMore
set_option linter.unusedVariables false
set_option linter.unusedSimpArgs false

theorem OctetPuts : umpirelaw02_OctetPuts.Pure := by
  intro n s big hn hs
  obtain ⟨h0, h1⟩ := wf_u64 hn
  apply Ev.rounds
  unfold umpirelaw02_OctetPuts.f
  refine Ev.bind awake_octet ?_
  simp only [if_true]
  refine Ev.bind (put_spec n s big h0 h1) ?_
  simp only [fits_spec n s h0 h1, Option.bind_some]
  refine Ev.bind (rfits_spec n s h0 h1) ?_
  simp only [bne_self_eq_false, Bool.false_eq_true, if_false]
  refine Ev.bind (rfits_spec n s h0 h1) ?_
  by_cases c : fits n s = true
  · have hf : 1 ≤ s ∧ s ≤ 8 := by
      unfold fits at c
      simp only [Bool.and_eq_true, decide_eq_true_eq] at c
      exact c.1
    simp only [c, if_true, bne_self_eq_false, Bool.false_eq_true, if_false]
    have h := rput_spec n s.toNat big h0 h1 (by omega)
    rw [show ((s.toNat : Nat) : Int) = s by omega] at h
    refine Ev.bind h ?_
    simp only [beq_self_eq_true]
    exact Ev.now _
  · have c' : fits n s = false := by simpa using c
    simp only [c', Bool.false_eq_true, if_false, bne_self_eq_false, List.length_nil]
    exact Ev.now _
end Go.Proofs.Ytnnehekodoakeaa.Pure
