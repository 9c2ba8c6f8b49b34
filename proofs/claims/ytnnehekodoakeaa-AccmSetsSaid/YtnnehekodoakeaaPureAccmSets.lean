/- The law AccmSets, over numbers and lists: a map is told by its characters, which rise; with some besides it has those, and these; no conditions. -/
import Derived.Test.YtnnehekodoakeaaQAccm
import Derived.Test.YtnnehekodoakeaaQAwakeAccm
import Derived.Test.YtnnehekodoakeaaF6
namespace Go.Proofs.Ytnnehekodoakeaa.Pure
open Go.RowKit Go.Proofs.Ytnnehekodoakeaa.Print Go.Proofs.Ytnnehekodoakeaa.Q Go.Proofs.YtnnehekodoakeaaW.PrintWords Go.Proofs.YtnnehekodoakeaaW.PrintLast Go.Proofs.YtnnehekodoakeaaW.PrintMore
set_option linter.unusedVariables false
set_option linter.unusedSimpArgs false

theorem sets_loop (m n c : Int) (l : List Int) (hl : l.length ≤ 32) (hs : l.Pairwise (· < ·)) {R : Bool} (h : Ev (fun k => umpirelaw05_AccmSets.l0 k m n c l (l.length : Int)) R) (d : Nat) : ∀ i : Nat, l.length - i = d → 1 ≤ i → i ≤ l.length → Ev (fun k => umpirelaw05_AccmSets.l0 k m n c l (i : Int)) R := by
  induction d with
  | zero =>
    intro i hd h1 hi
    obtain rfl : i = l.length := by omega
    exact h
  | succ d ih =>
    intro i hd h1 hi
    refine Ev.step (fun k => ?_) (ih (i + 1) (by omega) (by omega) (by omega))
    have hlt : l[i - 1]'(by omega) < l[i]'(by omega) := List.pairwise_iff_getElem.1 hs (i - 1) i (by omega) (by omega) (by omega)
    rw [umpirelaw05_AccmSets.l0, if_pos (by omega), w64 (x := (i : Int) - 1) (by omega) (by omega), if_pos (by omega), if_pos (by omega), if_pos (by omega), show ((i : Int) - 1) = ((i - 1 : Nat) : Int) by omega, rd_get (i - 1) (by omega), rd_get i (by omega), if_neg (by omega), w64 (by omega) (by omega)]
    rfl
theorem AccmSets : umpirelaw05_AccmSets.Pure := by
  intro m n c hm hn hc
  obtain ⟨m0, m1⟩ := wf_u32 hm
  obtain ⟨n0, n1⟩ := wf_u32 hn
  obtain ⟨c0, c1⟩ := wf_u8 hc
  have hpm : ∀ c ∈ chars m, 0 ≤ c := fun c hc => (chars_bytes m 0 c hc).1
  have hpn : ∀ c ∈ chars n, 0 ≤ c := fun c hc => (chars_bytes n 0 c hc).1
  have lm := charsFrom_len m 0
  have ln := charsFrom_len n 0
  have rng := withv_range m (chars n) m0 m1
  have e0 : withv 0 (chars m) = m := map_ext (withv_range 0 _ (by decide) (by decide)).1 m0 (fun j => by rw [with_chars 0 m (by decide) m0 m1]; simp)
  have e1 : withv m (chars n) = withv n (chars m) := map_ext rng.1 (withv_range n _ n0 n1).1 (fun j => by rw [with_chars m n m0 n0 n1, with_chars n m n0 m0 m1, Bool.or_comm])
  have e2 : hasv (withv m (chars n)) c = (hasv m c || hasv n c) := by
    unfold hasv
    rw [with_chars m n m0 n0 n1]
    cases decide (c < 32) <;> simp
  have e3 : (m == n) = ((strOfNums (chars m)).toList == (strOfNums (chars n)).toList) := by
    rw [strOf_beq (a := chars m) (b := chars n) (chars_bytes m 0) (chars_bytes n 0), Bool.eq_iff_iff, beq_iff_eq, beq_iff_eq]
    exact ⟨fun h => by rw [h], chars_inj m0 m1 n0 n1⟩
  apply Ev.rounds
  unfold umpirelaw05_AccmSets.f
  refine Ev.bind awake_accm ?_
  simp only [if_true]
  refine Ev.bind (list_spec m m0 m1) ?_
  have tail : ∀ i : Int, ((chars m).length : Int) ≤ i → Ev (fun k => umpirelaw05_AccmSets.l0 k m n c (chars m) i) true := by
    intro i hi
    refine Ev.step (fun k => by rw [umpirelaw05_AccmSets.l0, if_neg (by omega)]) ?_
    refine Ev.bind (list_spec n n0 n1) ?_
    refine Ev.bind (with_spec m (chars n) m0 m1 hpn (by unfold chars; omega)) ?_
    refine Ev.bind (with_spec 0 (chars m) (by decide) (by decide) hpm (by unfold chars; omega)) ?_
    simp only [e0, if_true]
    refine Ev.bind (with_spec n (chars m) n0 n1 hpm (by unfold chars; omega)) ?_
    simp only [e1, if_true]
    rw [e1] at e2 rng
    simp only [has_spec _ c rng.1 rng.2 c0, has_spec m c m0 m1 c0, has_spec n c n0 n1 c0, Option.bind_some, e2]
    by_cases a : hasv m c = true
    · simp only [a, Bool.true_or, beq_self_eq_true, if_true]
      refine Ev.bind (list_spec n n0 n1) ?_
      rw [← e3, beq_self_eq_true]
      exact Ev.now _
    · simp only [a, Bool.false_or, Bool.false_eq_true, beq_self_eq_true, if_true, if_false]
      refine Ev.bind (list_spec n n0 n1) ?_
      rw [← e3, beq_self_eq_true]
      exact Ev.now _
  rcases Nat.eq_zero_or_pos (chars m).length with h | h
  · exact tail 1 (by omega)
  · exact sets_loop m n c (chars m) (by unfold chars; omega) (chars_rise m) (tail _ (Int.le_refl _)) ((chars m).length - 1) 1 rfl (by omega) (by omega)
end Go.Proofs.Ytnnehekodoakeaa.Pure
