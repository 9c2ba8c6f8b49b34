/- The law FcsOf, over numbers and lists: fcs.More, fcs.Of and fcs.Size answer as the reference does; no conditions. -/
import Derived.Test.YtnokndhppdkmdaaQRefFcs
import Derived.Test.YtnokndhppdkmdaaQAwakeFcs
import Derived.Test.YtnokndhppdkmdaaF3
namespace Go.Proofs.Ytnokndhppdkmdaa.Pure
open Go.RowKit Go.Proofs.Ytnokndhppdkmdaa.Print Go.Proofs.Ytnokndhppdkmdaa.Q Go.Proofs.YtnokndhppdkmdaaW.PrintWords Go.Proofs.YtnokndhppdkmdaaW.PrintLast Go.Proofs.YtnokndhppdkmdaaW.PrintMore
set_option linter.unusedVariables false
set_option linter.unusedSimpArgs false

theorem FcsOf : umpirelaw04_FcsOf.Pure := by
  intro n l wide hn hl1 hl2 hl3
  obtain ⟨h0, h1⟩ := wf_u32 hn
  obtain ⟨n, rfl⟩ := Int.eq_ofNat_of_zero_le h0
  have hb := bytes_wf hl3
  apply Ev.rounds
  unfold umpirelaw04_FcsOf.f
  refine Ev.bind awake_fcs ?_
  simp only [if_true]
  by_cases a : (l.length : Int) > 2000
  · simp only [a, decide_true]
    refine Ev.step (f := fun k => (umpirelaw04_awake.f k).bind fun t => (some t)) (fun k => ?_) (Ev.bind awake_fcs (Ev.now _))
    rw [umpirelaw04_FcsOf.j0, if_pos rfl]
  · simp only [a, decide_false]
    refine Ev.step (fun k => by rw [umpirelaw04_FcsOf.j0, if_neg (by decide)]) ?_
    rw [more_spec n l wide (by omega) hb]
    simp only [Option.bind_some]
    refine Ev.bind (rmore_spec n l wide (by omega) hb (by omega)) ?_
    simp only [if_true, of_spec l wide hb, Option.bind_some]
    refine Ev.bind (rof_spec l wide hb (by omega)) ?_
    simp only [if_true, size_nat, rsize_nat, Option.bind_some, beq_self_eq_true]
    exact Ev.now _
end Go.Proofs.Ytnokndhppdkmdaa.Pure
