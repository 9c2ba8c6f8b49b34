/- The law DumpReads, over numbers and lists: dump.Read and dump.Next answer as the reference does for whatever bytes; no conditions. -/
import Derived.Test.YtnokndhppdkmdaaDoorQAllDumpReads
import Derived.Test.YtnokndhppdkmdaaDoorF4
namespace Go.Proofs.YtnokndhppdkmdaaDoor.Pure
open Go.RowKit Go.Proofs.YtnokndhppdkmdaaDoor.Print Go.Proofs.YtnokndhppdkmdaaDoor.Q Go.Proofs.YtnokndhppdkmdaaDoorW.PrintWords Go.Proofs.YtnokndhppdkmdaaDoorW.PrintLast Go.Proofs.YtnokndhppdkmdaaDoorW.PrintMore
set_option linter.unusedVariables false
set_option linter.unusedSimpArgs false

theorem DumpReads : ∀ (a0 : List Int), (fun l : List Int => l.length * 1 ≤ 140737488351232 ∧ ∀ a ∈ l, (fun a : Int => (Lit.int .u8 a).wf = true) a) a0 → ∃ k, umpirelaw10_DumpReads.f k a0 = some true := by
  intro b hwb
  have hb : Bytes b := bytes_wf hwb.2
  apply Ev.rounds
  unfold umpirelaw10_DumpReads.f
  refine Ev.bind awake_dump ?_
  simp only [if_true]
  by_cases hbl : (b.length : Int) > 70000
  · simp only [hbl, decide_true]
    refine Ev.step (f := fun k => (umpirelaw10_awake.f k).bind fun t => (some t)) (fun k => ?_) (Ev.bind awake_dump (Ev.now _))
    rw [umpirelaw10_DumpReads.j0, if_pos rfl]
  · simp only [hbl, decide_false]
    have h4 := (readgo_ok b.length b 0 hb (Nat.le_refl _) (Int.le_refl _)).2.2.2.1
    have hr : readgo b.length b 0 = readv b := rfl
    rw [hr] at h4
    refine Ev.step (fun k => by rw [umpirelaw10_DumpReads.j0, if_neg (by decide)]) ?_
    refine Ev.bind (dread_spec b hb (by omega)) ?_
    refine Ev.bind (rread_spec b hb (by omega)) ?_
    refine Ev.bind (dnext_spec b hb (by omega)) ?_
    refine Ev.bind (rnext_spec b hb (by omega)) ?_
    refine Ev.bind (same_refl (readv b).1 (by omega)) ?_
    simp only [if_true, beq_self_eq_true, Bool.and_self]
    refine Ev.bind (same_refl _ (by simp)) ?_
    simp only [if_true]
    exact Ev.now _
end Go.Proofs.YtnokndhppdkmdaaDoor.Pure
