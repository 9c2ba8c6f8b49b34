/- The law OctetGets, over numbers and lists: for all bytes, in either order, octet.Get answers as the reference does; no conditions. -/
import Derived.Test.YtnnehekodoakeaaQOctet
import Derived.Test.YtnnehekodoakeaaQRefOct
import Derived.Test.YtnnehekodoakeaaQAwakeOctet
import Derived.Test.YtnnehekodoakeaaF9
namespace Go.Proofs.Ytnnehekodoakeaa.Pure
open Go.RowKit Go.Proofs.Ytnnehekodoakeaa.Print Go.Proofs.Ytnnehekodoakeaa.Q Go.Proofs.YtnnehekodoakeaaW.PrintWords Go.Proofs.YtnnehekodoakeaaW.PrintLast Go.Proofs.YtnnehekodoakeaaW.PrintMore
set_option linter.unusedVariables false
set_option linter.unusedSimpArgs false

theorem OctetGets : umpirelaw02_OctetGets.Pure := by
  intro l big hl1 hl2 hl3
  have hb := bytes_wf hl3
  apply Ev.rounds
  unfold umpirelaw02_OctetGets.f
  refine Ev.bind awake_octet ?_
  simp only [if_true]
  by_cases a : (l.length : Int) > 1000
  · simp only [a, decide_true]
    refine Ev.step (f := fun k => (umpirelaw02_awake.f k).bind fun t => (some t)) (fun k => ?_) (Ev.bind awake_octet (Ev.now _))
    rw [umpirelaw02_OctetGets.j0, if_pos rfl]
  · simp only [a, decide_false]
    refine Ev.step (fun k => by rw [umpirelaw02_OctetGets.j0, if_neg (by decide)]) ?_
    have hg := get_spec l hb big
    by_cases c : (l.length : Int) < 1
    · rw [if_neg (by omega)] at hg
      refine Ev.bind hg ?_
      simp only [c, if_true]
      exact Ev.now _
    · by_cases d : (l.length : Int) > 8
      · rw [if_neg (by omega)] at hg
        refine Ev.bind hg ?_
        simp only [c, d, if_true, if_false]
        exact Ev.now _
      · rw [if_pos (by omega)] at hg
        refine Ev.bind hg ?_
        simp only [c, d, if_true, if_false]
        refine Ev.bind (rget_spec l hb (by omega) big) ?_
        simp only [beq_self_eq_true]
        exact Ev.now _
end Go.Proofs.Ytnnehekodoakeaa.Pure
