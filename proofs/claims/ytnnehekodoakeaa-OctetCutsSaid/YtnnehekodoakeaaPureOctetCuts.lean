/- The law OctetCuts, over numbers and lists: for all bytes and places octet.Cut and octet.Behind answer as the reference does; no conditions. -/
import Derived.Test.YtnnehekodoakeaaQRefCut
import Derived.Test.YtnnehekodoakeaaQAwakeOctet
import Derived.Test.YtnnehekodoakeaaF11
namespace Go.Proofs.Ytnnehekodoakeaa.Pure
open Go.RowKit Go.Proofs.Ytnnehekodoakeaa.Print Go.Proofs.Ytnnehekodoakeaa.Q Go.Proofs.YtnnehekodoakeaaW.PrintWords Go.Proofs.YtnnehekodoakeaaW.PrintLast Go.Proofs.YtnnehekodoakeaaW.PrintMore
set_option linter.unusedVariables false
set_option linter.unusedSimpArgs false

theorem OctetCuts : umpirelaw02_OctetCuts.Pure := by
  intro l a1 a2 hl1 hl2 hl3 ha1 ha2
  have hw := wf_i64 ha1
  apply Ev.rounds
  unfold umpirelaw02_OctetCuts.f
  refine Ev.bind awake_octet ?_
  simp only [if_true]
  by_cases a : (l.length : Int) > 1000
  · simp only [a, decide_true]
    refine Ev.step (f := fun k => (umpirelaw02_awake.f k).bind fun t => (some t)) (fun k => ?_) (Ev.bind awake_octet (Ev.now _))
    rw [umpirelaw02_OctetCuts.j0, if_pos rfl]
  · simp only [a, decide_false]
    refine Ev.step (fun k => by rw [umpirelaw02_OctetCuts.j0, if_neg (by decide)]) ?_
    simp only [cut_spec l a1 a2 (by omega) hw.2, behind_spec l a1 (by omega), Option.bind_some]
    refine Ev.bind (rcut_spec l a1 a2 (by omega)) ?_
    simp only [beq_self_eq_true, if_true]
    refine Ev.bind (rbehind_spec l a1 (by omega)) ?_
    simp only [beq_self_eq_true]
    exact Ev.now _
end Go.Proofs.Ytnnehekodoakeaa.Pure
