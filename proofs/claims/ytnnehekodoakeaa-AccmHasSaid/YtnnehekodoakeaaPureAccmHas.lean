/- The law AccmHas, over numbers: for every map and byte accm.Has and accm.Apart answer as the reference does; no conditions. -/
import Derived.Test.YtnnehekodoakeaaQRefAccm
import Derived.Test.YtnnehekodoakeaaQAwakeAccm
import Derived.Test.YtnnehekodoakeaaF3
namespace Go.Proofs.Ytnnehekodoakeaa.Pure
open Go.RowKit Go.Proofs.Ytnnehekodoakeaa.Print Go.Proofs.Ytnnehekodoakeaa.Q Go.Proofs.YtnnehekodoakeaaW.PrintWords Go.Proofs.YtnnehekodoakeaaW.PrintLast Go.Proofs.YtnnehekodoakeaaW.PrintMore
set_option linter.unusedVariables false
set_option linter.unusedSimpArgs false

theorem AccmHas : umpirelaw05_AccmHas.Pure := by
  intro m c hm hc
  obtain ⟨h0, h1⟩ := wf_u32 hm
  obtain ⟨c0, c1⟩ := wf_u8 hc
  apply Ev.rounds
  unfold umpirelaw05_AccmHas.f
  refine Ev.bind awake_accm ?_
  simp only [if_true, has_spec m c h0 h1 c0, apart_spec m c h0 h1 c0, Option.bind_some]
  refine Ev.bind (rhas_spec m c h0 h1 c0) ?_
  simp only [beq_self_eq_true, if_true]
  refine Ev.bind (rapart_spec m c h0 h1 c0) ?_
  simp only [beq_self_eq_true]
  exact Ev.now _
end Go.Proofs.Ytnnehekodoakeaa.Pure
