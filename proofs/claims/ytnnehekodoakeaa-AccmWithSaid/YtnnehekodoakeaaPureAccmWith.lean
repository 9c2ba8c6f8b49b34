/- The law AccmWith, over numbers and lists: for every map and bytes accm.With and accm.List answer as the reference does; no conditions. -/
import Derived.Test.YtnnehekodoakeaaQRefAccm
import Derived.Test.YtnnehekodoakeaaQAwakeAccm
import Derived.Test.YtnnehekodoakeaaF4
namespace Go.Proofs.Ytnnehekodoakeaa.Pure
open Go.RowKit Go.Proofs.Ytnnehekodoakeaa.Print Go.Proofs.Ytnnehekodoakeaa.Q Go.Proofs.YtnnehekodoakeaaW.PrintWords Go.Proofs.YtnnehekodoakeaaW.PrintLast Go.Proofs.YtnnehekodoakeaaW.PrintMore
set_option linter.unusedVariables false
set_option linter.unusedSimpArgs false

theorem AccmWith : umpirelaw05_AccmWith.Pure := by
  intro m l hm hl1 hl2 hl3
  obtain ⟨h0, h1⟩ := wf_u32 hm
  have hb := bytes_wf hl3
  have hp : ∀ c ∈ l, 0 ≤ c := fun c hc => (hb c hc).1
  apply Ev.rounds
  unfold umpirelaw05_AccmWith.f
  refine Ev.bind awake_accm ?_
  simp only [if_true]
  by_cases a : (l.length : Int) > 1000
  · simp only [a, decide_true]
    refine Ev.step (f := fun k => (umpirelaw05_awake.f k).bind fun t => (some t)) (fun k => ?_) (Ev.bind awake_accm (Ev.now _))
    rw [umpirelaw05_AccmWith.j0, if_pos rfl]
  · simp only [a, decide_false]
    refine Ev.step (fun k => by rw [umpirelaw05_AccmWith.j0, if_neg (by decide)]) ?_
    refine Ev.bind (with_spec m l h0 h1 hp (by omega)) ?_
    refine Ev.bind (rwith_spec m l h0 h1 hp (by omega)) ?_
    simp only [if_true]
    refine Ev.bind (list_spec m h0 h1) ?_
    refine Ev.bind (rlist_spec m h0 h1) ?_
    simp only [beq_self_eq_true]
    exact Ev.now _
end Go.Proofs.Ytnnehekodoakeaa.Pure
