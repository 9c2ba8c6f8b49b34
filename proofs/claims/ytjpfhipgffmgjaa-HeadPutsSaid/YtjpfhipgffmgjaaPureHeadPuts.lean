/- The law HeadPuts, over numbers: for every protocol head.May and head.Put answer as the reference does; no conditions. -/
import Derived.Test.YtjpfhipgffmgjaaQRefHead
import Derived.Test.YtjpfhipgffmgjaaQAwakeHead
import Derived.Test.YtjpfhipgffmgjaaF7
namespace Go.Proofs.Ytjpfhipgffmgjaa.Pure
open Go.RowKit Go.Proofs.Ytjpfhipgffmgjaa.Print Go.Proofs.Ytjpfhipgffmgjaa.Q Go.Proofs.YtjpfhipgffmgjaaW.PrintWords Go.Proofs.YtjpfhipgffmgjaaW.PrintLast Go.Proofs.YtjpfhipgffmgjaaW.PrintMore
set_option linter.unusedVariables false
set_option linter.unusedSimpArgs false

theorem HeadPuts : umpirelaw08_HeadPuts.Pure := by
  intro p full short hp
  apply Ev.rounds
  unfold umpirelaw08_HeadPuts.f
  refine Ev.bind awake_head ?_
  simp only [if_true, hput_spec, rmay_spec, may_spec, Option.bind_some]
  by_cases c : mayv p = true
  · simp only [c, if_true, rhput_spec p full short c, Option.bind_some, beq_self_eq_true]
    exact Ev.now _
  · simp only [c, Bool.false_eq_true, if_false, if_true, List.length_nil]
    exact Ev.now _
end Go.Proofs.Ytjpfhipgffmgjaa.Pure
