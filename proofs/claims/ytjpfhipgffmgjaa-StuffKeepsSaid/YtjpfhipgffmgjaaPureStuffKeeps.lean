/- The law StuffKeeps, over numbers and lists: what stuff.Stuff and stuff.Unstuff answered stays though the bytes that were handed in are changed; no conditions. -/
import Derived.Test.YtjpfhipgffmgjaaQRefStuff
import Derived.Test.YtjpfhipgffmgjaaQAwakeStuff
import Derived.Test.YtjpfhipgffmgjaaF5
namespace Go.Proofs.Ytjpfhipgffmgjaa.Pure
open Go.RowKit Go.Proofs.Ytjpfhipgffmgjaa.Print Go.Proofs.Ytjpfhipgffmgjaa.Q Go.Proofs.YtjpfhipgffmgjaaW.PrintWords Go.Proofs.YtjpfhipgffmgjaaW.PrintLast Go.Proofs.YtjpfhipgffmgjaaW.PrintMore
set_option linter.unusedVariables false
set_option linter.unusedSimpArgs false

theorem skeeps_loop (l : List Int) (m : Int) (hb : Bytes l) (h0 : 0 ≤ m) (h1 : m < 4294967296) (hl : l.length ≤ 1000) (d : Nat) : ∀ (y : List Int) (i : Nat), y.length = l.length → y.length - i = d → i ≤ y.length → Ev (fun k => umpirelaw06_StuffKeeps.l0 k l m y (stuffv l m) (unstuffv l m).1 (unstuffv l m).1 (i : Int)) true := by
  induction d with
  | zero =>
    intro y i hy hd hi
    refine Ev.step (fun k => by rw [umpirelaw06_StuffKeeps.l0, if_neg (by omega)]) ?_
    refine Ev.bind (rstuff_spec l m hb h0 h1 (by omega)) ?_
    simp only [if_true, beq_self_eq_true]
    exact Ev.now _
  | succ d ih =>
    intro y i hy hd hi
    refine Ev.step (fun k => ?_) (ih (y.set i ((rd y (i : Int) + 1) % 256)) (i + 1) (by simpa using hy) (by simp; omega) (by simp; omega))
    rw [umpirelaw06_StuffKeeps.l0, if_pos (by omega), if_pos (by omega), w64 (by omega) (by omega)]
    rfl
theorem StuffKeeps : umpirelaw06_StuffKeeps.Pure := by
  intro l m hl1 hl2 hl3 hm
  obtain ⟨h0, h1⟩ := wf_u32 hm
  have hb := bytes_wf hl3
  apply Ev.rounds
  unfold umpirelaw06_StuffKeeps.f
  refine Ev.bind awake_stuff ?_
  simp only [if_true]
  by_cases a : (l.length : Int) > 1000
  · simp only [a, decide_true]
    refine Ev.step (f := fun k => (umpirelaw06_awake.f k).bind fun t => (some t)) (fun k => ?_) (Ev.bind awake_stuff (Ev.now _))
    rw [umpirelaw06_StuffKeeps.j0, if_pos rfl]
  · simp only [a, decide_false]
    refine Ev.step (fun k => by rw [umpirelaw06_StuffKeeps.j0, if_neg (by decide)]) ?_
    simp only [Option.bind_some, List.nil_append, List.length_nil, Nat.zero_add, show l.length < 140737488355328 by omega, if_true, stuff_spec l m hb h0 h1 (by omega)]
    refine Ev.bind (unstuff_spec l m hb h0 h1 (by omega)) ?_
    refine Ev.bind (runstuff_spec l m hb h0 h1 (by omega)) ?_
    exact skeeps_loop l m hb h0 h1 (by omega) l.length l 0 rfl (by omega) (by omega)
end Go.Proofs.Ytjpfhipgffmgjaa.Pure
