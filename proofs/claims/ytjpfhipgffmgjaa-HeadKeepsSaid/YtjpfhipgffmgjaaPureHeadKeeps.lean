/- The law HeadKeeps, over numbers and lists: what head.Body answered stays though the bytes that were handed in are changed; no conditions. -/
import Derived.Test.YtjpfhipgffmgjaaQHead
import Derived.Test.YtjpfhipgffmgjaaQAwakeHead
import Derived.Test.YtjpfhipgffmgjaaF11
namespace Go.Proofs.Ytjpfhipgffmgjaa.Pure
open Go.RowKit Go.Proofs.Ytjpfhipgffmgjaa.Print Go.Proofs.Ytjpfhipgffmgjaa.Q Go.Proofs.YtjpfhipgffmgjaaW.PrintWords Go.Proofs.YtjpfhipgffmgjaaW.PrintLast Go.Proofs.YtjpfhipgffmgjaaW.PrintMore
set_option linter.unusedVariables false
set_option linter.unusedSimpArgs false

theorem keeps_loop (l : List Int) (hb : Bytes l) (hl : l.length ≤ 1000) (d : Nat) : ∀ (y : List Int) (i : Nat), y.length = l.length → y.length - i = d → i ≤ y.length → Ev (fun k => umpirelaw08_HeadKeeps.l0 k l y (bodyv l).1 (bodyv l).2.1 (bodyv l).2.2 (i : Int)) true := by
  induction d with
  | zero =>
    intro y i hy hd hi
    refine Ev.step (fun k => by rw [umpirelaw08_HeadKeeps.l0, if_neg (by omega)]) ?_
    refine Ev.bind (body_spec l hb (by omega)) ?_
    simp only [if_true, beq_self_eq_true]
    exact Ev.now _
  | succ d ih =>
    intro y i hy hd hi
    refine Ev.step (fun k => ?_) (ih (y.set i ((rd y (i : Int) + 1) % 256)) (i + 1) (by simpa using hy) (by simp; omega) (by simp; omega))
    rw [umpirelaw08_HeadKeeps.l0, if_pos (by omega), if_pos (by omega), w64 (by omega) (by omega)]
    rfl
theorem HeadKeeps : umpirelaw08_HeadKeeps.Pure := by
  intro l hl1 hl2 hl3
  have hb := bytes_wf hl3
  apply Ev.rounds
  unfold umpirelaw08_HeadKeeps.f
  refine Ev.bind awake_head ?_
  simp only [if_true]
  by_cases a : (l.length : Int) > 1000
  · simp only [a, decide_true]
    refine Ev.step (f := fun k => (umpirelaw08_awake.f k).bind fun t => (some t)) (fun k => ?_) (Ev.bind awake_head (Ev.now _))
    rw [umpirelaw08_HeadKeeps.j0, if_pos rfl]
  · simp only [a, decide_false]
    refine Ev.step (fun k => by rw [umpirelaw08_HeadKeeps.j0, if_neg (by decide)]) ?_
    simp only [Option.bind_some, List.nil_append, List.length_nil, Nat.zero_add, show l.length < 140737488355328 by omega, if_true]
    refine Ev.bind (body_spec l hb (by omega)) ?_
    exact keeps_loop l hb (by omega) l.length l 0 rfl (by omega) (by omega)
end Go.Proofs.Ytjpfhipgffmgjaa.Pure
