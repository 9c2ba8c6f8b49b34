/- The law PcapPuts, over numbers and lists. -/
import Derived.Test.YtnjimecjpnjojaaQAllPcapPuts
import Derived.Test.YtnjimecjpnjojaaF3
namespace Go.Proofs.Ytnjimecjpnjojaa.Pure
open Go.RowKit Go.Proofs.Ytnjimecjpnjojaa.Print Go.Proofs.Ytnjimecjpnjojaa.Q Go.Proofs.YtnjimecjpnjojaaW.PrintWords Go.Proofs.YtnjimecjpnjojaaW.PrintLast Go.Proofs.YtnjimecjpnjojaaW.PrintMore
set_option linter.unusedVariables false
theorem PcapPuts_core (big nano : Bool) (s k0 : Int) (l : List S46) (hm : l.length ≤ 4611686018427387904) (hg : ∀ r ∈ l, Q.Good r) (hs : 0 ≤ s ∧ s < 4294967296) (hk : 0 ≤ k0 ∧ k0 < 4294967296) : Ev (fun k => umpirelaw09_PcapPuts.f k big nano s k0 l) true := by
  unfold umpirelaw09_PcapPuts.f
  refine Ev.bind awake_pcap ?_
  simp only [if_true]
  refine Ev.bind (few_spec l hm) ?_
  cases hf : fewv l with
  | false =>
    refine Ev.step (f := fun k => (umpirelaw09_awake.f k).bind fun t => (some t)) (fun k => ?_) (Ev.bind awake_pcap (Ev.now _))
    rw [umpirelaw09_PcapPuts.j0]
    exact if_pos rfl
  | true =>
    have hc := few_capn l hf
    refine Ev.step (fun k => by rw [umpirelaw09_PcapPuts.j0, if_neg (by decide)]) ?_
    refine Ev.bind (capput_spec big nano s k0 l hm hg hs hk hc) ?_
    refine Ev.bind (rcapput_spec big nano s k0 l hm hg hs hk hc) ?_
    refine Ev.congr (fun k => if_pos rfl) ?_
    rw [beq_self_eq_true]
    exact Ev.now _
theorem PcapPuts : ∀ (a0 : Print.S24) (a1 : List Print.S46), (fun x : Print.S24 => (fun _ : Bool => True) x.f0 ∧ (fun _ : Bool => True) x.f1 ∧ (fun a : Int => (Lit.int .u32 a).wf = true) x.f2 ∧ (fun a : Int => (Lit.int .u32 a).wf = true) x.f3) a0 → (fun l : List Print.S46 => l.length * 40 ≤ 140737488351232 ∧ ∀ a ∈ l, (fun x : Print.S46 => (fun a : Int => (Lit.int .u32 a).wf = true) x.f0 ∧ (fun a : Int => (Lit.int .u32 a).wf = true) x.f1 ∧ (fun a : Int => (Lit.int .u32 a).wf = true) x.f2 ∧ (fun l : List Int => l.length * 1 ≤ 140737488351232 ∧ ∀ a ∈ l, (fun a : Int => (Lit.int .u8 a).wf = true) a) x.f3) a) a1 → ∃ k, umpirelaw09_PcapPuts.f k a0.f0 a0.f1 a0.f2 a0.f3 a1 = some true := by
  intro a0 a1 h0 h1
  apply Ev.rounds
  exact PcapPuts_core a0.f0 a0.f1 a0.f2 a0.f3 a1 (by have := h1.1; omega) (fun r hr => ⟨wf_u32 (h1.2 r hr).1, wf_u32 (h1.2 r hr).2.1, wf_u32 (h1.2 r hr).2.2.1⟩) (wf_u32 h0.2.2.1) (wf_u32 h0.2.2.2)
end Go.Proofs.Ytnjimecjpnjojaa.Pure
