/- The law DumpPuts, over numbers and lists: dump.Put answers as the reference does for whatever notes; no conditions. -/
import Derived.Test.YtnokndhppdkmdaaDoorQDumpPut
import Derived.Test.YtnokndhppdkmdaaDoorQAwakeDump
import Derived.Test.YtnokndhppdkmdaaDoorF3
namespace Go.Proofs.YtnokndhppdkmdaaDoor.Pure
open Go.RowKit Go.Proofs.YtnokndhppdkmdaaDoor.Print Go.Proofs.YtnokndhppdkmdaaDoor.Q Go.Proofs.YtnokndhppdkmdaaDoorW.PrintWords Go.Proofs.YtnokndhppdkmdaaDoorW.PrintLast Go.Proofs.YtnokndhppdkmdaaDoorW.PrintMore
set_option linter.unusedVariables false
set_option linter.unusedSimpArgs false

theorem DumpPuts : ∀ (a0 : List Note), (fun l : List Note => l.length * 40 ≤ 140737488351232 ∧ ∀ a ∈ l, (fun x : Note => (fun a : Int => (Lit.int .i64 a).wf = true) x.f0 ∧ (fun a : Int => (Lit.int .u32 a).wf = true) x.f1 ∧ (fun l : List Int => l.length * 1 ≤ 140737488351232 ∧ ∀ a ∈ l, (fun a : Int => (Lit.int .u8 a).wf = true) a) x.f2) a) a0 → ∃ k, umpirelaw10_DumpPuts.f k a0 = some true := by
  intro l hw
  have hl : l.length < 140737488355328 := by omega
  have hx : ∀ x ∈ l, NoteOk x := fun x h => ⟨wf_i64 (hw.2 x h).1, wf_u32 (hw.2 x h).2.1, bytes_wf (hw.2 x h).2.2.2⟩
  apply Ev.rounds
  unfold umpirelaw10_DumpPuts.f
  refine Ev.bind awake_dump ?_
  simp only [if_true]
  refine Ev.bind (few_spec l hl) ?_
  cases hf : fewv l with
  | false =>
    simp only [Bool.not_false]
    refine Ev.step (f := fun k => (umpirelaw10_awake.f k).bind fun t => (some t)) (fun k => ?_) (Ev.bind awake_dump (Ev.now _))
    rw [umpirelaw10_DumpPuts.j0, if_pos rfl]
  | true =>
    simp only [Bool.not_true]
    have ht := (tot_of_few hf).2.1
    refine Ev.step (fun k => by rw [umpirelaw10_DumpPuts.j0, if_neg (by decide)]) ?_
    refine Ev.bind (dput_spec l hl hx (by omega)) ?_
    refine Ev.bind (rput10_spec l hl hx (by omega)) ?_
    simp only [if_true, beq_self_eq_true]
    exact Ev.now _
end Go.Proofs.YtnokndhppdkmdaaDoor.Pure
