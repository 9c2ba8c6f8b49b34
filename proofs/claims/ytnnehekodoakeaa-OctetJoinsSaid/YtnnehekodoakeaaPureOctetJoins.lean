/- The law OctetJoins, over numbers and lists: whatever parts there are, octet.Join is all of them, and each is cut out of it again; no conditions. -/
import Derived.Test.YtnnehekodoakeaaQRows
import Derived.Test.YtnnehekodoakeaaQRefCut
import Derived.Test.YtnnehekodoakeaaQAwakeOctet
import Derived.Test.YtnnehekodoakeaaF12
namespace Go.Proofs.Ytnnehekodoakeaa.Pure
open Go.RowKit Go.Proofs.Ytnnehekodoakeaa.Print Go.Proofs.Ytnnehekodoakeaa.Q Go.Proofs.YtnnehekodoakeaaW.PrintWords Go.Proofs.YtnnehekodoakeaaW.PrintLast Go.Proofs.YtnnehekodoakeaaW.PrintMore
set_option linter.unusedVariables false
set_option linter.unusedSimpArgs false

theorem rjoin_loop (l : List (List Int)) (hf : l.flatten.length < 140737488355328) (hn : l.length < 140737488355328) : ∀ (d i : Nat), l.length - i = d → i ≤ l.length → Ev (fun k => umpireref02_Join.l0 k l (l.take i).flatten (i : Int)) l.flatten := by
  intro d
  induction d with
  | zero =>
    intro i hd hi
    refine Ev.step (f := fun _ => some l.flatten) (fun k => ?_) (Ev.now _)
    rw [umpireref02_Join.l0, if_neg (by omega), flat_all l i (by omega)]
  | succ d ih =>
    intro i hd hi
    have hlt : i < l.length := by omega
    have h1 := flat_take_le l (i + 1)
    rw [flat_next l i hlt, List.length_append] at h1
    refine Ev.step (f := fun k => umpireref02_Join.l0 k l (l.take (i + 1)).flatten ((i + 1 : Nat) : Int)) (fun k => ?_) (ih (i + 1) (by omega) (by omega))
    rw [umpireref02_Join.l0, if_pos (by omega), if_pos (by omega), rdL_get l i hlt, if_pos (by omega), flat_next l i hlt, w64 (by omega) (by omega)]
    rfl
theorem rjoin_spec (l : List (List Int)) (hf : l.flatten.length < 140737488355328) (hn : l.length < 140737488355328) : Ev (fun k => umpireref02_Join.f k l) l.flatten := rjoin_loop l hf hn l.length 0 (by omega) (by omega)
theorem join_spec (l : List (List Int)) (hf : l.flatten.length < 140737488355328) : octet_Join.f l = some l.flatten := by
  unfold octet_Join.f slices_Concat_byte_byte.f
  rw [if_pos hf]
  rfl
theorem joins_l1 (l : List (List Int)) (hf : l.flatten.length ≤ 10000) (hn : l.length ≤ 50) : ∀ (d i : Nat), l.length - i = d → i ≤ l.length → Ev (fun k => umpirelaw02_OctetJoins.l1 k l l.flatten ((l.take i).flatten.length : Int) (i : Int)) true := by
  intro d
  induction d with
  | zero =>
    intro i hd hi
    refine Ev.step (fun k => by rw [umpirelaw02_OctetJoins.l1, if_neg (by omega), flat_all l i (by omega), if_pos rfl]) ?_
    refine Ev.bind (rjoin_spec l (by omega) (by omega)) ?_
    simp only [beq_self_eq_true]
    exact Ev.now _
  | succ d ih =>
    intro i hd hi
    have hlt : i < l.length := by omega
    have h1 := flat_take_le l (i + 1)
    rw [flat_next l i hlt, List.length_append] at h1
    have hs := flat_split l i hlt
    have hc : cutv l.flatten ((l.take i).flatten.length : Int) (l[i].length : Int) = (l[i], true) := by
      unfold cutv
      rw [if_pos (by omega)]
      congr 1
      rw [Int.toNat_natCast, Int.toNat_natCast]
      conv => lhs; rw [hs]
      rw [List.drop_left, List.take_left]
    refine Ev.step (f := fun k => umpirelaw02_OctetJoins.l1 k l l.flatten ((l.take (i + 1)).flatten.length : Int) ((i + 1 : Nat) : Int)) (fun k => ?_) (ih (i + 1) (by omega) (by omega))
    rw [umpirelaw02_OctetJoins.l1, if_pos (by omega), if_pos (by omega), rdL_get l i hlt, cut_spec _ _ _ (by omega) (by omega), hc]
    simp only [Option.bind_some, if_true]
    rw [flat_next l i hlt, List.length_append, w64 (by omega) (by omega), w64 (by omega) (by omega)]
    rfl
theorem joins_l0 (l : List (List Int)) (hn : l.length ≤ 50) : ∀ (d i : Nat), l.length - i = d → i ≤ l.length → (∀ j (h : j < l.length), j < i → l[j].length ≤ 200) → Ev (fun k => umpirelaw02_OctetJoins.l0 k l (i : Int)) true := by
  intro d
  induction d with
  | zero =>
    intro i hd hi ha
    have hall : ∀ x ∈ l, x.length ≤ 200 := by
      intro x hx
      obtain ⟨j, hj, rfl⟩ := List.getElem_of_mem hx
      exact ha j hj (by omega)
    have hf := flat_len hall
    have hm : l.length * 200 ≤ 50 * 200 := Nat.mul_le_mul_right _ hn
    refine Ev.step (fun k => by rw [umpirelaw02_OctetJoins.l0, if_neg (by omega), join_spec l (by omega), Option.bind_some]) ?_
    exact joins_l1 l (by omega) hn l.length 0 (by omega) (by omega)
  | succ d ih =>
    intro i hd hi ha
    have hlt : i < l.length := by omega
    by_cases hb : (l[i].length : Int) > 200
    · refine Ev.step (f := fun _ => some true) (fun k => ?_) (Ev.now _)
      rw [umpirelaw02_OctetJoins.l0, if_pos (by omega), if_pos (by omega), rdL_get l i hlt, if_pos hb]
    · refine Ev.step (f := fun k => umpirelaw02_OctetJoins.l0 k l ((i + 1 : Nat) : Int)) (fun k => ?_) (ih (i + 1) (by omega) (by omega) ?_)
      · rw [umpirelaw02_OctetJoins.l0, if_pos (by omega), if_pos (by omega), rdL_get l i hlt, if_neg hb, w64 (by omega) (by omega)]
        rfl
      · intro j hj hji
        by_cases e : j = i
        · subst e
          omega
        · exact ha j hj (by omega)
theorem OctetJoins : ∀ (a0 : List (List Int)), (fun l : List (List Int) => l.length * 24 ≤ 140737488351232 ∧ ∀ a ∈ l, (fun l : List Int => l.length * 1 ≤ 140737488351232 ∧ ∀ a ∈ l, (fun a : Int => (Lit.int .u8 a).wf = true) a) a) a0 → ∃ k, umpirelaw02_OctetJoins.f k a0 = some true := by
  intro l hw
  apply Ev.rounds
  unfold umpirelaw02_OctetJoins.f
  refine Ev.bind awake_octet ?_
  simp only [if_true]
  by_cases a : (l.length : Int) > 50
  · simp only [a, decide_true]
    refine Ev.step (f := fun k => (umpirelaw02_awake.f k).bind fun t => (some t)) (fun k => ?_) (Ev.bind awake_octet (Ev.now _))
    rw [umpirelaw02_OctetJoins.j0, if_pos rfl]
  · simp only [a, decide_false]
    refine Ev.step (fun k => by rw [umpirelaw02_OctetJoins.j0, if_neg (by decide)]) ?_
    exact joins_l0 l (by omega) l.length 0 (by omega) (by omega) (fun j h hj => by omega)
end Go.Proofs.Ytnnehekodoakeaa.Pure
