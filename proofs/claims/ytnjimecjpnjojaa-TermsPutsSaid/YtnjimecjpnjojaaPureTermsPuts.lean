/- The law TermsPuts, over numbers and lists. -/
import Derived.Test.YtnjimecjpnjojaaQAllTermsPuts
import Derived.Test.YtnjimecjpnjojaaF11
namespace Go.Proofs.Ytnjimecjpnjojaa.Pure
open Go.RowKit Go.Proofs.Ytnjimecjpnjojaa.Print Go.Proofs.Ytnjimecjpnjojaa.Q Go.Proofs.YtnjimecjpnjojaaW.PrintWords Go.Proofs.YtnjimecjpnjojaaW.PrintLast Go.Proofs.YtnjimecjpnjojaaW.PrintMore
set_option linter.unusedVariables false
theorem TermsPuts : ∀ (a0 : Print.S61), (fun x : Print.S61 => (fun _ : Bool => True) x.f0 ∧ (fun a : Int => (Lit.int .i64 a).wf = true) x.f1 ∧ (fun _ : Bool => True) x.f2 ∧ (fun a : Int => (Lit.int .u32 a).wf = true) x.f3 ∧ (fun a : Int => (Lit.int .i64 a).wf = true) x.f4 ∧ (fun _ : Bool => True) x.f5 ∧ (fun _ : Bool => True) x.f6 ∧ (fun a : Int => (Lit.int .u32 a).wf = true) x.f7 ∧ (fun _ : Bool => True) x.f8 ∧ (fun _ : Bool => True) x.f9) a0 → ∃ k, umpirelaw14_TermsPuts.f k a0.f0 a0.f1 a0.f2 a0.f3 a0.f4 a0.f5 a0.f6 a0.f7 a0.f8 a0.f9 = some true := by
  intro t h
  have h1 := wf_i64 h.2.1
  have h3 := wf_u32 h.2.2.2.1
  have h7 := wf_u32 h.2.2.2.2.2.2.2.1
  apply Ev.rounds
  unfold umpirelaw14_TermsPuts.f
  refine Ev.bind awake_terms ?_
  refine Ev.congr (fun k => if_pos rfl) ?_
  have hsp := tputs_spec t.f0 t.f1 t.f2 t.f3 t.f4 t.f5 t.f6 t.f7 t.f8 t.f9 h1 h3 h7
  have hrm := rmay_spec t.f0 t.f1 t.f2 t.f3 t.f4 t.f5 t.f6 t.f7 t.f8 t.f9
  cases hm : mayv t.f0 t.f1 t.f2 t.f3 t.f4 t.f6 t.f7 with
  | false =>
    rw [hm, if_neg (by decide)] at hsp
    rw [hm] at hrm
    refine Ev.bind hsp ?_
    refine Ev.bind hrm ?_
    refine Ev.congr (fun k => if_neg (by decide)) ?_
    exact Ev.congr (fun k => if_neg (by simp)) (Ev.now _)
  | true =>
    have hr : 0 ≤ t.f1 ∧ t.f1 ≤ 65535 := by
      unfold mayv at hm
      exact of_decide_eq_true (Bool.and_eq_true _ _ ▸ hm).1
    rw [hm, if_pos rfl] at hsp
    rw [hm] at hrm
    refine Ev.bind hsp ?_
    refine Ev.bind hrm ?_
    refine Ev.congr (fun k => if_pos rfl) ?_
    refine Ev.congr (fun k => if_pos rfl) ?_
    refine Ev.bind (rputs_spec t.f0 t.f1 t.f2 t.f3 t.f4 t.f5 t.f6 t.f7 t.f8 t.f9 hr h3 h7) ?_
    have hl := putl_length t.f0 t.f1 t.f2 t.f3 t.f4 t.f5 t.f6 t.f7 t.f8 t.f9
    exact Ev.bind (osame_refl _ (by dsimp only; omega)) (Ev.now _)
end Go.Proofs.Ytnjimecjpnjojaa.Pure
