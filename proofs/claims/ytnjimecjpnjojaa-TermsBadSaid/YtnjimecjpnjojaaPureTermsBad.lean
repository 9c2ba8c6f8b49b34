/- The law TermsBad, over numbers and lists. -/
import Derived.Test.YtnjimecjpnjojaaQAllTermsBad
import Derived.Test.YtnjimecjpnjojaaF12
namespace Go.Proofs.Ytnjimecjpnjojaa.Pure
open Go.RowKit Go.Proofs.Ytnjimecjpnjojaa.Print Go.Proofs.Ytnjimecjpnjojaa.Q Go.Proofs.YtnjimecjpnjojaaW.PrintWords Go.Proofs.YtnjimecjpnjojaaW.PrintLast Go.Proofs.YtnjimecjpnjojaaW.PrintMore
set_option linter.unusedVariables false
theorem TermsBad : ∀ (a0 : List Print.S55), (fun l : List Print.S55 => l.length * 32 ≤ 140737488351232 ∧ ∀ a ∈ l, (fun x : Print.S55 => (fun a : Int => (Lit.int .i64 a).wf = true) x.f0 ∧ (fun l : List Int => l.length * 1 ≤ 140737488351232 ∧ ∀ a ∈ l, (fun a : Int => (Lit.int .u8 a).wf = true) a) x.f1) a) a0 → ∃ k, umpirelaw14_TermsBad.f k a0 = some true := by
  intro l h
  have ho := opts_wf h.2
  have hm : l.length ≤ 4611686018427387904 := by have := h.1; omega
  apply Ev.rounds
  unfold umpirelaw14_TermsBad.f
  refine Ev.bind awake_terms ?_
  refine Ev.congr (fun k => if_pos rfl) ?_
  obtain ⟨b, hf, hb⟩ := ofew_spec l hm
  refine Ev.bind hf ?_
  cases b with
  | false => exact Ev.congr (fun k => if_neg (by decide)) (Ev.now _)
  | true =>
    have hl := hb rfl
    have hn := badv_length l [] [] []
    simp only [List.length_nil, Nat.zero_add] at hn
    refine Ev.congr (fun k => if_pos rfl) ?_
    refine Ev.bind (tbad_spec l ho (by omega)) ?_
    refine Ev.bind (rbad_spec l ho (by omega)) ?_
    generalize badv [] [] [] l = p at hn
    refine Ev.bind (osame_refl p.1 (by omega)) ?_
    exact Ev.congr (fun k => if_pos rfl) (osame_refl p.2 (by omega))
end Go.Proofs.Ytnjimecjpnjojaa.Pure
