/- The law TermsReads, over numbers and lists. -/
import Derived.Test.YtnjimecjpnjojaaQAllTermsReads
import Derived.Test.YtnjimecjpnjojaaF10
namespace Go.Proofs.Ytnjimecjpnjojaa.Pure
open Go.RowKit Go.Proofs.Ytnjimecjpnjojaa.Print Go.Proofs.Ytnjimecjpnjojaa.Q Go.Proofs.YtnjimecjpnjojaaW.PrintWords Go.Proofs.YtnjimecjpnjojaaW.PrintLast Go.Proofs.YtnjimecjpnjojaaW.PrintMore
set_option linter.unusedVariables false
theorem TermsReads : ∀ (a0 : List Print.S55), (fun l : List Print.S55 => l.length * 32 ≤ 140737488351232 ∧ ∀ a ∈ l, (fun x : Print.S55 => (fun a : Int => (Lit.int .i64 a).wf = true) x.f0 ∧ (fun l : List Int => l.length * 1 ≤ 140737488351232 ∧ ∀ a ∈ l, (fun a : Int => (Lit.int .u8 a).wf = true) a) x.f1) a) a0 → ∃ k, umpirelaw14_TermsReads.f k a0 = some true := by
  intro l h
  have ho := opts_wf h.2
  have hm : l.length ≤ 4611686018427387904 := by have := h.1; omega
  apply Ev.rounds
  unfold umpirelaw14_TermsReads.f
  refine Ev.bind awake_terms ?_
  simp only [if_true]
  obtain ⟨b, hf, hb⟩ := ofew_spec l hm
  refine Ev.bind hf ?_
  cases b with
  | false =>
    refine Ev.step (f := fun k => (umpirelaw14_awake.f k).bind fun t => (some t)) (fun k => ?_) (Ev.bind awake_terms (Ev.now _))
    rw [umpirelaw14_TermsReads.j0]
    exact if_pos rfl
  | true =>
    have hl := hb rfl
    refine Ev.step (fun k => by rw [umpirelaw14_TermsReads.j0, if_neg (by decide)]) ?_
    refine Ev.bind (tread_spec l ho (by omega)) ?_
    refine Ev.bind (rtread_spec l ho hm) ?_
    generalize tup (rres [] terms_readers.T.zero l) = r
    refine Ev.congr (fun k => if_pos (by simp)) ?_
    refine Ev.congr (fun k => if_pos (by simp)) ?_
    refine Ev.bind (login_spec l ho hm) ?_
    refine Ev.bind (rlogin_spec l ho hm) ?_
    rw [beq_self_eq_true]
    exact Ev.now _
end Go.Proofs.Ytnjimecjpnjojaa.Pure
