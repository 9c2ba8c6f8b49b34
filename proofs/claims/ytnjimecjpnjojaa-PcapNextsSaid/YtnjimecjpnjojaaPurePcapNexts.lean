/- The law PcapNexts, over numbers and lists. -/
import Derived.Test.YtnjimecjpnjojaaQPcapNext
import Derived.Test.YtnjimecjpnjojaaQAwakePcap
import Derived.Test.YtnjimecjpnjojaaF5
namespace Go.Proofs.Ytnjimecjpnjojaa.Pure
open Go.RowKit Go.Proofs.Ytnjimecjpnjojaa.Print Go.Proofs.Ytnjimecjpnjojaa.Q Go.Proofs.YtnjimecjpnjojaaW.PrintWords Go.Proofs.YtnjimecjpnjojaaW.PrintLast Go.Proofs.YtnjimecjpnjojaaW.PrintMore
set_option linter.unusedVariables false
theorem same_one (x : S46) : Ev (fun k => umpireref09_Same.f k [x] [x]) true := by
  unfold umpireref09_Same.f
  refine Ev.congr (fun k => if_pos rfl) ?_
  refine Ev.step (fun k => by rw [umpireref09_Same.l0, if_pos (by simp), if_pos (by omega), if_pos (by simp), if_pos rfl, if_pos rfl, if_pos rfl, if_pos rfl]) ?_
  refine Ev.step (fun k => by rw [umpireref09_Same.l0, if_neg (by rw [show wrap64 (0 + 1) = (1 : Int) from (w64 (by omega) (by omega)).trans (by omega)]; simp)]) ?_
  exact Ev.now _
theorem PcapNexts : umpirelaw09_PcapNexts.Pure := by
  intro l a1 hl1 hl2 hl3
  have hb := bytes_wf hl3
  apply Ev.rounds
  unfold umpirelaw09_PcapNexts.f
  refine Ev.bind awake_pcap ?_
  simp only [if_true]
  by_cases a : (l.length : Int) > 140000
  · simp only [a, decide_true]
    refine Ev.step (f := fun k => (umpirelaw09_awake.f k).bind fun t => (some t)) (fun k => ?_) (Ev.bind awake_pcap (Ev.now _))
    rw [umpirelaw09_PcapNexts.j0, if_pos rfl]
  · simp only [a, decide_false]
    refine Ev.step (fun k => by rw [umpirelaw09_PcapNexts.j0, if_neg (by decide)]) ?_
    refine Ev.bind (next_spec l hb (by omega) a1) ?_
    refine Ev.bind (rnext_spec l hb (by omega) a1) ?_
    refine Ev.bind (same_one _) ?_
    refine Ev.congr (fun k => if_pos rfl) ?_
    refine Ev.congr (fun k => if_pos rfl) ?_
    rw [beq_self_eq_true]
    exact Ev.now _
end Go.Proofs.Ytnjimecjpnjojaa.Pure
