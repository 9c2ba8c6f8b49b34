/- The law FramePuts, over numbers and lists: of whatever bodies frame.Row and frame.Put answer as the reference does; no conditions. -/
import Derived.Test.YtgnonglkibhnhaaQAllFramePuts
import Derived.Test.YtgnonglkibhnhaaF3
namespace Go.Proofs.Ytgnonglkibhnhaa.Pure
open Go.RowKit Go.Proofs.Ytgnonglkibhnhaa.Print Go.Proofs.Ytgnonglkibhnhaa.Q Go.Proofs.YtgnonglkibhnhaaW.PrintWords Go.Proofs.YtgnonglkibhnhaaW.PrintLast Go.Proofs.YtgnonglkibhnhaaW.PrintMore
set_option linter.unusedVariables false
set_option linter.unusedSimpArgs false

theorem puts_away (l : List (List Int)) (m : Int) (wide : Bool) : Ev (fun k => umpirelaw07_FramePuts.j0 k l m wide true) true := by
  refine Ev.step (f := fun k => (umpirelaw07_awake.f k).bind fun t => (some t)) (fun k => ?_) (Ev.bind awake_frame (Ev.now _))
  rw [umpirelaw07_FramePuts.j0, if_pos rfl]
theorem FramePuts : ∀ (a0 : List (List Int)) (a1 : Int) (a2 : Bool), (fun l : List (List Int) => l.length * 24 ≤ 140737488351232 ∧ ∀ a ∈ l, (fun l : List Int => l.length * 1 ≤ 140737488351232 ∧ ∀ a ∈ l, (fun a : Int => (Lit.int .u8 a).wf = true) a) a) a0 → (fun a : Int => (Lit.int .u32 a).wf = true) a1 → ∃ k, umpirelaw07_FramePuts.f k a0 a1 a2 = some true := by
  intro l m wide hl hm
  obtain ⟨h0, h1⟩ := wf_u32 hm
  have hb : ∀ x ∈ l, Bytes x := fun x hx => bytes_wf (hl.2 x hx).2
  obtain ⟨b, hf, hc⟩ := few_spec l
  apply Ev.rounds
  unfold umpirelaw07_FramePuts.f
  refine Ev.bind awake_frame ?_
  simp only [if_true]
  refine Ev.bind hf ?_
  cases b with
  | false => exact puts_away l m wide
  | true =>
    obtain ⟨hn, hx⟩ := hc rfl
    refine Ev.step (fun k => by rw [umpirelaw07_FramePuts.j0, if_neg (by decide)]) ?_
    refine Ev.bind (row_spec m wide h0 h1 l hb hn hx) (Ev.bind (rrow_spec m wide h0 h1 l hb hn hx) ?_)
    simp only [if_true, bne_self_eq_false]
    refine Ev.step (fun k => by rw [umpirelaw07_FramePuts.j1, if_neg (by decide)]) ?_
    cases l with
    | nil =>
      simp only [List.length_nil, Int.natCast_zero, if_true]
      exact Ev.now _
    | cons x t =>
      have e0 : rd_L1 (x :: t) 0 = x := rdL_get (x :: t) 0 (by simp)
      have g1 : ¬ (((x :: t).length : Int) = 0) := by rw [List.length_cons]; omega
      have g2 : (0 : Int) < ((x :: t).length : Int) := by rw [List.length_cons]; omega
      simp only [g1, g2, if_true, if_false, e0]
      have hbx := hb x (by simp)
      have hxx := hx x (by simp)
      refine Ev.bind (put_spec_f m wide h0 h1 x hbx hxx) (Ev.bind (rrow_spec m wide h0 h1 [x] (fun y hy => by rw [List.mem_singleton.1 hy]; exact hbx) (by simp) (fun y hy => by rw [List.mem_singleton.1 hy]; exact hxx)) ?_)
      simp only [if_true, beq_self_eq_true]
      exact Ev.now _
end Go.Proofs.Ytgnonglkibhnhaa.Pure
