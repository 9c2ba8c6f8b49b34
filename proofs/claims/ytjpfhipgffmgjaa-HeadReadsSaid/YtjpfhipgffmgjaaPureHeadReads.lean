/- The law HeadReads, over numbers and lists: for all bytes head.Read answers as the reference does, and head.Body what it tells; no conditions. -/
import Derived.Test.YtjpfhipgffmgjaaQRefHead
import Derived.Test.YtjpfhipgffmgjaaQAwakeHead
import Derived.Test.YtjpfhipgffmgjaaF8
namespace Go.Proofs.Ytjpfhipgffmgjaa.Pure
open Go.RowKit Go.Proofs.Ytjpfhipgffmgjaa.Print Go.Proofs.Ytjpfhipgffmgjaa.Q Go.Proofs.YtjpfhipgffmgjaaW.PrintWords Go.Proofs.YtjpfhipgffmgjaaW.PrintLast Go.Proofs.YtjpfhipgffmgjaaW.PrintMore
set_option linter.unusedVariables false
set_option linter.unusedSimpArgs false

theorem HeadReads : umpirelaw08_HeadReads.Pure := by
  intro l hl1 hl2 hl3
  have hb := bytes_wf hl3
  apply Ev.rounds
  unfold umpirelaw08_HeadReads.f
  refine Ev.bind awake_head ?_
  simp only [if_true]
  by_cases a : (l.length : Int) > 1000
  · simp only [a, decide_true]
    refine Ev.step (f := fun k => (umpirelaw08_awake.f k).bind fun t => (some t)) (fun k => ?_) (Ev.bind awake_head (Ev.now _))
    rw [umpirelaw08_HeadReads.j0, if_pos rfl]
  · simp only [a, decide_false]
    refine Ev.step (fun k => by rw [umpirelaw08_HeadReads.j0, if_neg (by decide)]) ?_
    refine Ev.bind (read_spec l hb) ?_
    refine Ev.bind (rread_spec l hb) ?_
    refine Ev.bind (body_spec l hb (by omega)) ?_
    simp only [beq_self_eq_true, Bool.not_true, Bool.or_false, Bool.false_eq_true, if_false, if_true]
    unfold bodyv
    by_cases c : (readv l).2.2 = 0
    · have hle := readv_le l c
      simp only [c, if_true, show (0 : Int) ≤ (readv l).2.1 by omega, show (readv l).2.1 ≤ (l.length : Int) by omega, beq_self_eq_true]
      exact Ev.now _
    · simp only [c, if_true, if_false, List.length_nil]
      exact Ev.now _
end Go.Proofs.Ytjpfhipgffmgjaa.Pure
