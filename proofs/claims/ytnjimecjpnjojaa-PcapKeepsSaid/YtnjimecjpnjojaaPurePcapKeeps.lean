/- The law PcapKeeps, over numbers and lists. -/
import Derived.Test.YtnjimecjpnjojaaQAllPcapKeeps
import Derived.Test.YtnjimecjpnjojaaF8
namespace Go.Proofs.Ytnjimecjpnjojaa.Pure
open Go.RowKit Go.Proofs.Ytnjimecjpnjojaa.Print Go.Proofs.Ytnjimecjpnjojaa.Q Go.Proofs.YtnjimecjpnjojaaW.PrintWords Go.Proofs.YtnjimecjpnjojaaW.PrintLast Go.Proofs.YtnjimecjpnjojaaW.PrintMore
set_option linter.unusedVariables false
theorem pkeeps_l0 (b : List Int) (hb : Bytes b) (hl : b.length ≤ 140000) : ∀ (d : Nat) (y : List Int) (i : Nat), y.length ≤ 140000 → y.length - i = d → i ≤ y.length → Ev (fun k => umpirelaw09_PcapKeeps.l0 k b y (readv b).2.2.2.2.1 (i : Int)) true := by
  have hlen := readv_length b hb
  intro d
  induction d with
  | zero =>
    intro y i hy hd hi
    refine Ev.step (fun k => by rw [umpirelaw09_PcapKeeps.l0, if_neg (by omega)]) ?_
    refine Ev.bind (rread09_spec b hb (by omega)) ?_
    exact Ev.bind (same_refl _ (by omega)) (Ev.now _)
  | succ d ih =>
    intro y i hy hd hi
    have hw : wrap64 ((i : Int) + 1) = ((i + 1 : Nat) : Int) := by rw [w64 (by omega) (by omega)]; omega
    refine Ev.step (fun k => by rw [umpirelaw09_PcapKeeps.l0, if_pos (by omega), if_pos (by omega), hw]) ?_
    exact ih _ (i + 1) (by rw [List.length_set]; exact hy) (by rw [List.length_set]; omega) (by rw [List.length_set]; omega)
theorem PcapKeeps : umpirelaw09_PcapKeeps.Pure := by
  intro l hl1 hl2 hl3
  have hb := bytes_wf hl3
  apply Ev.rounds
  unfold umpirelaw09_PcapKeeps.f
  refine Ev.bind awake_pcap ?_
  simp only [if_true]
  by_cases a : (l.length : Int) > 140000
  · simp only [a, decide_true]
    refine Ev.step (f := fun k => (umpirelaw09_awake.f k).bind fun t => (some t)) (fun k => ?_) (Ev.bind awake_pcap (Ev.now _))
    rw [umpirelaw09_PcapKeeps.j0, if_pos rfl]
  · simp only [a, decide_false]
    refine Ev.step (fun k => by rw [umpirelaw09_PcapKeeps.j0, if_neg (by decide)]) ?_
    refine Ev.congr (fun k => Option.bind_some ..) ?_
    refine Ev.congr (fun k => if_pos (by simp only [List.length_nil]; omega)) ?_
    refine Ev.congr (fun k => Option.bind_some ..) ?_
    rw [List.nil_append]
    refine Ev.bind (read_spec l hb (by omega)) ?_
    refine Ev.congr (fun k => if_pos rfl) ?_
    exact pkeeps_l0 l hb (by omega) l.length l 0 (by omega) (by omega) (by omega)
end Go.Proofs.Ytnjimecjpnjojaa.Pure
