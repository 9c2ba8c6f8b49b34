/- The law TermsRights, over numbers and lists. -/
import Derived.Test.YtnjimecjpnjojaaQAllTermsRights
import Derived.Test.YtnjimecjpnjojaaF9
namespace Go.Proofs.Ytnjimecjpnjojaa.Pure
open Go.RowKit Go.Proofs.Ytnjimecjpnjojaa.Print Go.Proofs.Ytnjimecjpnjojaa.Q Go.Proofs.YtnjimecjpnjojaaW.PrintWords Go.Proofs.YtnjimecjpnjojaaW.PrintLast Go.Proofs.YtnjimecjpnjojaaW.PrintMore
set_option linter.unusedVariables false
theorem TermsRights : ∀ (a0 : Print.S55), (fun x : Print.S55 => (fun a : Int => (Lit.int .i64 a).wf = true) x.f0 ∧ (fun l : List Int => l.length * 1 ≤ 140737488351232 ∧ ∀ a ∈ l, (fun a : Int => (Lit.int .u8 a).wf = true) a) x.f1) a0 → ∃ k, umpirelaw14_TermsRights.f k a0.f0 a0.f1 = some true := by
  intro o h
  have hb := bytes_wf h.2.2
  have hm : o.f1.length < 140737488355328 := by have := h.2.1; omega
  apply Ev.rounds
  unfold umpirelaw14_TermsRights.f
  refine Ev.bind awake_terms ?_
  simp only [if_true]
  by_cases a : (o.f1.length : Int) > 1000
  · simp only [a, decide_true]
    refine Ev.step (f := fun k => (umpirelaw14_awake.f k).bind fun t => (some t)) (fun k => ?_) (Ev.bind awake_terms (Ev.now _))
    rw [umpirelaw14_TermsRights.j0, if_pos rfl]
  · simp only [a, decide_false]
    refine Ev.step (fun k => by rw [umpirelaw14_TermsRights.j0, if_neg (by decide), known_spec o.f0 h.1, rknown_spec o.f0, Option.bind_some, Option.bind_some]) ?_
    refine Ev.congr (fun k => if_pos (by simp)) ?_
    refine Ev.bind (right_spec o.f0 o.f1 h.1 hb hm) ?_
    refine Ev.bind (rright_spec o.f0 o.f1 hb) ?_
    rw [beq_self_eq_true]
    exact Ev.now _
end Go.Proofs.Ytnjimecjpnjojaa.Pure
