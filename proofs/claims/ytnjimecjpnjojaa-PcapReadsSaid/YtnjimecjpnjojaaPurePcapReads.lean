/- The law PcapReads, over numbers and lists. -/
import Derived.Test.YtnjimecjpnjojaaQAllPcapReads
import Derived.Test.YtnjimecjpnjojaaF4
namespace Go.Proofs.Ytnjimecjpnjojaa.Pure
open Go.RowKit Go.Proofs.Ytnjimecjpnjojaa.Print Go.Proofs.Ytnjimecjpnjojaa.Q Go.Proofs.YtnjimecjpnjojaaW.PrintWords Go.Proofs.YtnjimecjpnjojaaW.PrintLast Go.Proofs.YtnjimecjpnjojaaW.PrintMore
set_option linter.unusedVariables false
theorem PcapReads : umpirelaw09_PcapReads.Pure := by
  intro l hl1 hl2 hl3
  have hb := bytes_wf hl3
  apply Ev.rounds
  unfold umpirelaw09_PcapReads.f
  refine Ev.bind awake_pcap ?_
  simp only [if_true]
  by_cases a : (l.length : Int) > 140000
  · simp only [a, decide_true]
    refine Ev.step (f := fun k => (umpirelaw09_awake.f k).bind fun t => (some t)) (fun k => ?_) (Ev.bind awake_pcap (Ev.now _))
    rw [umpirelaw09_PcapReads.j0, if_pos rfl]
  · simp only [a, decide_false]
    refine Ev.step (fun k => by rw [umpirelaw09_PcapReads.j0, if_neg (by decide)]) ?_
    refine Ev.bind (read_spec l hb (by omega)) ?_
    refine Ev.bind (rread09_spec l hb (by omega)) ?_
    refine Ev.bind (head_spec l hb) ?_
    refine Ev.bind (rhead09_spec l hb (by omega)) ?_
    have hlen := readv_length l hb
    generalize readv l = r at hlen ⊢
    generalize headv l = h
    refine Ev.congr (fun k => if_pos (by simp)) ?_
    refine Ev.bind (same_refl _ (by omega)) ?_
    refine Ev.congr (fun k => if_pos rfl) ?_
    refine Ev.congr (fun k => if_pos (by simp)) ?_
    refine Ev.congr (fun k => if_pos (by simp)) ?_
    rw [beq_self_eq_true]
    exact Ev.now _
end Go.Proofs.Ytnjimecjpnjojaa.Pure
