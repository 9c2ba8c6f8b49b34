/- The law StuffPuts, over numbers and lists: stuff.Stuff answers as the reference does, and stuff.Size its length; no conditions. -/
import Derived.Test.YtjpfhipgffmgjaaQRefStuff
import Derived.Test.YtjpfhipgffmgjaaQAwakeStuff
import Derived.Test.YtjpfhipgffmgjaaF3
namespace Go.Proofs.Ytjpfhipgffmgjaa.Pure
open Go.RowKit Go.Proofs.Ytjpfhipgffmgjaa.Print Go.Proofs.Ytjpfhipgffmgjaa.Q Go.Proofs.YtjpfhipgffmgjaaW.PrintWords Go.Proofs.YtjpfhipgffmgjaaW.PrintLast Go.Proofs.YtjpfhipgffmgjaaW.PrintMore
set_option linter.unusedVariables false
set_option linter.unusedSimpArgs false

theorem StuffPuts : umpirelaw06_StuffPuts.Pure := by
  intro l m hl1 hl2 hl3 hm
  obtain ⟨h0, h1⟩ := wf_u32 hm
  have hb := bytes_wf hl3
  apply Ev.rounds
  unfold umpirelaw06_StuffPuts.f
  refine Ev.bind awake_stuff ?_
  simp only [if_true]
  by_cases a : (l.length : Int) > 2000
  · simp only [a, decide_true]
    refine Ev.step (f := fun k => (umpirelaw06_awake.f k).bind fun t => (some t)) (fun k => ?_) (Ev.bind awake_stuff (Ev.now _))
    rw [umpirelaw06_StuffPuts.j0, if_pos rfl]
  · simp only [a, decide_false]
    refine Ev.step (fun k => by rw [umpirelaw06_StuffPuts.j0, if_neg (by decide)]) ?_
    refine Ev.bind (rstuff_spec l m hb h0 h1 (by omega)) ?_
    simp only [stuff_spec l m hb h0 h1 (by omega), size_spec l m hb h0 h1 (by omega), Option.bind_some, if_true, beq_self_eq_true]
    exact Ev.now _
end Go.Proofs.Ytjpfhipgffmgjaa.Pure
