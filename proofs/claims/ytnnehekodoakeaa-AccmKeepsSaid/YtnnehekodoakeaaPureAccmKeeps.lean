/- The law AccmKeeps, over numbers and lists: what accm.List and accm.Put answer stays right though earlier answers are written over; no conditions. -/
import Derived.Test.YtnnehekodoakeaaQRefAccm
import Derived.Test.YtnnehekodoakeaaQAwakeAccm
import Derived.Test.YtnnehekodoakeaaF7
namespace Go.Proofs.Ytnnehekodoakeaa.Pure
open Go.RowKit Go.Proofs.Ytnnehekodoakeaa.Print Go.Proofs.Ytnnehekodoakeaa.Q Go.Proofs.YtnnehekodoakeaaW.PrintWords Go.Proofs.YtnnehekodoakeaaW.PrintLast Go.Proofs.YtnnehekodoakeaaW.PrintMore
set_option linter.unusedVariables false
set_option linter.unusedSimpArgs false

theorem keeps_tail (m : Int) (h0 : 0 ≤ m) (h1 : m < 4294967296) (d : Nat) : ∀ (l : List Int) (i : Nat), l.length ≤ 100 → l.length - i = d → i ≤ l.length → Ev (fun k => umpirelaw05_AccmKeeps.l1 k m l (i : Int)) true := by
  induction d with
  | zero =>
    intro l i hl hd hi
    refine Ev.step (fun k => by rw [umpirelaw05_AccmKeeps.l1, if_neg (by omega)]) ?_
    refine Ev.bind (list_spec m h0 h1) ?_
    refine Ev.bind (rlist_spec m h0 h1) ?_
    simp only [if_true]
    refine Ev.bind (put_spec4 m h0 h1) ?_
    refine Ev.bind (rput_spec4 m h0 h1) ?_
    simp only [beq_self_eq_true]
    exact Ev.now _
  | succ d ih =>
    intro l i hl hd hi
    refine Ev.step (fun k => ?_) (ih (l.set i 99) (i + 1) (by simpa using hl) (by simp; omega) (by simp; omega))
    rw [umpirelaw05_AccmKeeps.l1, if_pos (by omega), if_pos (by omega), w64 (by omega) (by omega)]
    rfl
theorem keeps_head (m : Int) (h0 : 0 ≤ m) (h1 : m < 4294967296) (b : List Int) (hb : b.length ≤ 100) (d : Nat) : ∀ (l : List Int) (i : Nat), l.length ≤ 100 → l.length - i = d → i ≤ l.length → Ev (fun k => umpirelaw05_AccmKeeps.l0 k m l b (i : Int)) true := by
  induction d with
  | zero =>
    intro l i hl hd hi
    refine Ev.step (fun k => by rw [umpirelaw05_AccmKeeps.l0, if_neg (by omega)]) ?_
    exact keeps_tail m h0 h1 b.length b 0 hb (by omega) (by omega)
  | succ d ih =>
    intro l i hl hd hi
    refine Ev.step (fun k => ?_) (ih (l.set i 99) (i + 1) (by simpa using hl) (by simp; omega) (by simp; omega))
    rw [umpirelaw05_AccmKeeps.l0, if_pos (by omega), if_pos (by omega), w64 (by omega) (by omega)]
    rfl
theorem AccmKeeps : umpirelaw05_AccmKeeps.Pure := by
  intro m hm
  obtain ⟨h0, h1⟩ := wf_u32 hm
  have lm := charsFrom_len m 0
  apply Ev.rounds
  unfold umpirelaw05_AccmKeeps.f
  refine Ev.bind awake_accm ?_
  simp only [if_true]
  refine Ev.bind (list_spec m h0 h1) ?_
  refine Ev.bind (put_spec4 m h0 h1) ?_
  exact keeps_head m h0 h1 _ (by rw [putb_length]; decide) (chars m).length (chars m) 0 (by unfold chars; omega) (by omega) (by omega)
end Go.Proofs.Ytnnehekodoakeaa.Pure
