/- The law FcsOpens, over numbers and lists: fcs.Open, fcs.Good and fcs.Seal answer as the reference does; no conditions. -/
import Derived.Test.YtnokndhppdkmdaaQRefFcsSeal
import Derived.Test.YtnokndhppdkmdaaQAwakeFcs
import Derived.Test.YtnokndhppdkmdaaF4
namespace Go.Proofs.Ytnokndhppdkmdaa.Pure
open Go.RowKit Go.Proofs.Ytnokndhppdkmdaa.Print Go.Proofs.Ytnokndhppdkmdaa.Q Go.Proofs.YtnokndhppdkmdaaW.PrintWords Go.Proofs.YtnokndhppdkmdaaW.PrintLast Go.Proofs.YtnokndhppdkmdaaW.PrintMore
set_option linter.unusedVariables false
set_option linter.unusedSimpArgs false

theorem openv_snd (l : List Int) (wide : Bool) : (openv l wide).2 = goodv l wide := by
  unfold openv
  by_cases c : goodv l wide = true
  · rw [if_pos c, c]
  · rw [if_neg c]
    simpa using c
theorem FcsOpens : umpirelaw04_FcsOpens.Pure := by
  intro l wide hl1 hl2 hl3
  have hb := bytes_wf hl3
  apply Ev.rounds
  unfold umpirelaw04_FcsOpens.f
  refine Ev.bind awake_fcs ?_
  simp only [if_true]
  by_cases a : (l.length : Int) > 2000
  · simp only [a, decide_true]
    refine Ev.step (f := fun k => (umpirelaw04_awake.f k).bind fun t => (some t)) (fun k => ?_) (Ev.bind awake_fcs (Ev.now _))
    rw [umpirelaw04_FcsOpens.j0, if_pos rfl]
  · simp only [a, decide_false]
    refine Ev.step (fun k => by rw [umpirelaw04_FcsOpens.j0, if_neg (by decide)]) ?_
    rw [open_spec l wide hb (by omega)]
    simp only [Option.bind_some]
    refine Ev.bind (ropen_spec l wide hb (by omega)) ?_
    simp only [beq_self_eq_true, if_true, good_spec l wide hb, Option.bind_some, openv_snd]
    refine Ev.bind (seal_spec l wide hb (by omega)) ?_
    refine Ev.bind (rseal_spec l wide hb (by omega)) ?_
    simp only [beq_self_eq_true]
    exact Ev.now _
end Go.Proofs.Ytnokndhppdkmdaa.Pure
