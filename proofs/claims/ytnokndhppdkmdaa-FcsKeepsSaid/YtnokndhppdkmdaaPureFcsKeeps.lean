/- The law FcsKeeps, over numbers and lists: what fcs.Seal and fcs.Open answered stays though the bytes that were handed in are changed; no conditions. -/
import Derived.Test.YtnokndhppdkmdaaQFcs
import Derived.Test.YtnokndhppdkmdaaQAwakeFcs
import Derived.Test.YtnokndhppdkmdaaF8
namespace Go.Proofs.Ytnokndhppdkmdaa.Pure
open Go.RowKit Go.Proofs.Ytnokndhppdkmdaa.Print Go.Proofs.Ytnokndhppdkmdaa.Q Go.Proofs.YtnokndhppdkmdaaW.PrintWords Go.Proofs.YtnokndhppdkmdaaW.PrintLast Go.Proofs.YtnokndhppdkmdaaW.PrintMore
set_option linter.unusedVariables false
set_option linter.unusedSimpArgs false

theorem fkeeps_loop1 (l : List Int) (d : Nat) : ∀ (y : List Int) (i : Nat), y.length ≤ 100000 → y.length - i = d → i ≤ y.length → Ev (fun k => umpirelaw04_FcsKeeps.l1 k l y l (i : Int)) true := by
  induction d with
  | zero =>
    intro y i hy hd hi
    refine Ev.step (f := fun _ => some true) (fun k => ?_) (Ev.now _)
    rw [umpirelaw04_FcsKeeps.l1, if_neg (by omega), beq_self_eq_true]
  | succ d ih =>
    intro y i hy hd hi
    refine Ev.step (fun k => ?_) (ih (y.set i ((rd y (i : Int) + 1) % 256)) (i + 1) (by simpa using hy) (by simp; omega) (by simp; omega))
    rw [umpirelaw04_FcsKeeps.l1, if_pos (by omega), if_pos (by omega), w64 (by omega) (by omega)]
    rfl
theorem fkeeps_loop (l z : List Int) (hz : z.length ≤ 100000) (d : Nat) : ∀ (y : List Int) (i : Nat), y.length ≤ 100000 → y.length - i = d → i ≤ y.length → Ev (fun k => umpirelaw04_FcsKeeps.l0 k l y z l (i : Int)) true := by
  induction d with
  | zero =>
    intro y i hy hd hi
    refine Ev.step (fun k => by rw [umpirelaw04_FcsKeeps.l0, if_neg (by omega)]) ?_
    exact fkeeps_loop1 l z.length z 0 hz (by omega) (by omega)
  | succ d ih =>
    intro y i hy hd hi
    refine Ev.step (fun k => ?_) (ih (y.set i ((rd y (i : Int) + 1) % 256)) (i + 1) (by simpa using hy) (by simp; omega) (by simp; omega))
    rw [umpirelaw04_FcsKeeps.l0, if_pos (by omega), if_pos (by omega), w64 (by omega) (by omega)]
    rfl
theorem FcsKeeps : umpirelaw04_FcsKeeps.Pure := by
  intro l wide hl1 hl2 hl3
  have hb := bytes_wf hl3
  have h4 := sizeN_le wide
  apply Ev.rounds
  unfold umpirelaw04_FcsKeeps.f
  refine Ev.bind awake_fcs ?_
  simp only [if_true]
  by_cases a : (l.length : Int) > 2000
  · simp only [a, decide_true]
    refine Ev.step (f := fun k => (umpirelaw04_awake.f k).bind fun t => (some t)) (fun k => ?_) (Ev.bind awake_fcs (Ev.now _))
    rw [umpirelaw04_FcsKeeps.j0, if_pos rfl]
  · simp only [a, decide_false]
    refine Ev.step (fun k => by rw [umpirelaw04_FcsKeeps.j0, if_neg (by decide)]) ?_
    simp only [Option.bind_some, List.nil_append, List.length_nil, Nat.zero_add, show l.length < 140737488355328 by omega, if_true]
    refine Ev.bind (seal_spec l wide hb (by omega)) ?_
    have ho := open_spec (sealv l wide) wide (sealv_bytes hb wide) (by rw [sealv_length]; omega)
    rw [open_sealv l wide hb] at ho
    simp only [ho, Option.bind_some]
    exact fkeeps_loop l (sealv l wide) (by rw [sealv_length]; omega) l.length l 0 (by omega) (by omega) (by omega)
end Go.Proofs.Ytnokndhppdkmdaa.Pure
