/- The law AccmBytes, over numbers and lists: for every map and bytes accm.Put and accm.Get answer as the reference does, and what is put is got; no conditions. -/
import Derived.Test.YtnnehekodoakeaaQRefAccm
import Derived.Test.YtnnehekodoakeaaQAwakeAccm
import Derived.Test.YtnnehekodoakeaaF5
namespace Go.Proofs.Ytnnehekodoakeaa.Pure
open Go.RowKit Go.Proofs.Ytnnehekodoakeaa.Print Go.Proofs.Ytnnehekodoakeaa.Q Go.Proofs.YtnnehekodoakeaaW.PrintWords Go.Proofs.YtnnehekodoakeaaW.PrintLast Go.Proofs.YtnnehekodoakeaaW.PrintMore
set_option linter.unusedVariables false
set_option linter.unusedSimpArgs false

theorem AccmBytes : umpirelaw05_AccmBytes.Pure := by
  intro m l hm hl1 hl2 hl3
  obtain ⟨h0, h1⟩ := wf_u32 hm
  have hb := bytes_wf hl3
  apply Ev.rounds
  unfold umpirelaw05_AccmBytes.f
  refine Ev.bind awake_accm ?_
  simp only [if_true]
  by_cases a : (l.length : Int) > 1000
  · simp only [a, decide_true]
    refine Ev.step (f := fun k => (umpirelaw05_awake.f k).bind fun t => (some t)) (fun k => ?_) (Ev.bind awake_accm (Ev.now _))
    rw [umpirelaw05_AccmBytes.j0, if_pos rfl]
  · simp only [a, decide_false]
    refine Ev.step (fun k => by rw [umpirelaw05_AccmBytes.j0, if_neg (by decide)]) ?_
    refine Ev.bind (get_spec4 l hb) ?_
    refine Ev.bind (rget_spec4 l hb) ?_
    refine Ev.bind (put_spec4 m h0 h1) ?_
    have hg := get_spec4 (putb m 4 true) (putb_bytes m 4 true)
    rw [if_pos (putb_length m 4 true), get_put4 m h0 h1] at hg
    refine Ev.bind hg ?_
    refine Ev.bind (put_spec4 m h0 h1) ?_
    refine Ev.bind (rput_spec4 m h0 h1) ?_
    simp only [beq_self_eq_true, if_true]
    exact Ev.now _
end Go.Proofs.Ytnnehekodoakeaa.Pure
