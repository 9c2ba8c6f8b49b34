/- The law HeadBack, over numbers and lists: what head.Put puts head.Body reads as it was, whatever stands behind; cut off it is at its end; no conditions. -/
import Derived.Test.YtjpfhipgffmgjaaQRefHead
import Derived.Test.YtjpfhipgffmgjaaQAwakeHead
import Derived.Test.YtjpfhipgffmgjaaF9
namespace Go.Proofs.Ytjpfhipgffmgjaa.Pure
open Go.RowKit Go.Proofs.Ytjpfhipgffmgjaa.Print Go.Proofs.Ytjpfhipgffmgjaa.Q Go.Proofs.YtjpfhipgffmgjaaW.PrintWords Go.Proofs.YtjpfhipgffmgjaaW.PrintLast Go.Proofs.YtjpfhipgffmgjaaW.PrintMore
set_option linter.unusedVariables false
set_option linter.unusedSimpArgs false

theorem headv_back (p : Int) (full short : Bool) (m : mayv p = true) (more : List Int) : readv (headv p full short ++ more) = (p, ((headv p full short).length : Int), 0) := by
  have hr := mayv_range m
  have h1 : ∀ (r : List Int) (at_ : Int), short = true ∧ p < 256 → protoAt (p % 256 :: r) at_ = (p, at_ + 1, 0) := by
    intro r at_ h
    unfold protoAt
    dsimp only
    rw [if_pos (by omega), if_neg (by omega), show p % 256 = p by omega]
  have h2 : ∀ (r : List Int) (at_ : Int), protoAt (p / 256 % 256 :: p % 256 :: r) at_ = (p, at_ + 2, 0) := by
    intro r at_
    unfold protoAt
    dsimp only
    rw [if_neg (by omega), if_neg (by omega), show 256 * (p / 256 % 256) + p % 256 = p by omega]
  unfold headv
  cases full
  · by_cases c : short = true ∧ p < 256
    · simp only [c, and_self, if_true, Bool.false_eq_true, if_false, List.nil_append, List.cons_append, List.length_cons, List.length_nil]
      unfold readv
      simp only [show ¬ (p % 256 = 255) by omega, if_false, h1 more 0 c]
      rfl
    · simp only [c, if_false, Bool.false_eq_true, List.nil_append, List.cons_append, List.length_cons, List.length_nil]
      unfold readv
      simp only [show ¬ (p / 256 % 256 = 255) by omega, if_false, h2 more 0]
      rfl
  · by_cases c : short = true ∧ p < 256
    · simp only [c, and_self, if_true, List.nil_append, List.cons_append, List.length_cons, List.length_nil]
      unfold readv
      simp only [if_true, h1 more 2 c]
      rfl
    · simp only [c, if_false, if_true, List.nil_append, List.cons_append, List.length_cons, List.length_nil]
      unfold readv
      simp only [if_true, h2 more 2]
      rfl
theorem headv_bytes (p : Int) (full short : Bool) : Bytes (headv p full short) := by
  unfold headv
  refine Bytes.append ?_ ?_
  · cases full
    · exact Bytes.nil
    · exact Bytes.cons (by omega) (Bytes.cons (by omega) Bytes.nil)
  · split
    · exact Bytes.cons (by omega) Bytes.nil
    · exact Bytes.cons (by omega) (Bytes.cons (by omega) Bytes.nil)
theorem headv_cut (p : Int) (full short : Bool) (m : mayv p = true) (j : Nat) (h : j < (headv p full short).length) : (readv ((headv p full short).take j)).2.2 = 2 := by
  have hr := mayv_range m
  unfold headv at h ⊢
  cases full
  · by_cases c : short = true ∧ p < 256
    · simp only [c, and_self, if_true, Bool.false_eq_true, if_false, List.nil_append, List.length_cons, List.length_nil] at h ⊢
      obtain rfl : j = 0 := by omega
      rfl
    · simp only [c, if_false, Bool.false_eq_true, List.nil_append, List.length_cons, List.length_nil] at h ⊢
      rcases (by omega : j = 0 ∨ j = 1) with rfl | rfl
      · rfl
      · simp only [List.take_succ_cons, List.take_zero]
        unfold readv
        simp only [show ¬ (p / 256 % 256 = 255) by omega, if_false]
        unfold protoAt
        simp only [show ¬ (p / 256 % 256 % 2 = 1) by omega, if_false]
  · by_cases c : short = true ∧ p < 256
    · simp only [c, and_self, if_true, List.cons_append, List.nil_append, List.length_cons, List.length_nil] at h ⊢
      rcases (by omega : j = 0 ∨ j = 1 ∨ j = 2) with rfl | rfl | rfl <;> rfl
    · simp only [c, if_false, if_true, List.cons_append, List.nil_append, List.length_cons, List.length_nil] at h ⊢
      rcases (by omega : j = 0 ∨ j = 1 ∨ j = 2 ∨ j = 3) with rfl | rfl | rfl | rfl
      · rfl
      · rfl
      · rfl
      · simp only [List.take_succ_cons, List.take_zero]
        unfold readv
        simp only [if_true]
        unfold protoAt
        simp only [show ¬ (p / 256 % 256 % 2 = 1) by omega, if_false]
theorem headv_len (p : Int) (full short : Bool) : 1 ≤ (headv p full short).length ∧ (headv p full short).length ≤ 4 := by
  unfold headv
  by_cases c : p < 256 <;> cases full <;> cases short <;> simp [c]
theorem HeadBack : umpirelaw08_HeadBack.Pure := by
  intro p full short more cut hp hl1 hl2 hl3 hc
  have hb := bytes_wf hl3
  have hcu := wf_u8 hc
  apply Ev.rounds
  unfold umpirelaw08_HeadBack.f
  refine Ev.bind awake_head ?_
  simp only [if_true]
  by_cases a : (more.length : Int) > 1000
  · simp only [a, decide_true]
    refine Ev.step (f := fun k => (umpirelaw08_awake.f k).bind fun t => (some t)) (fun k => ?_) (Ev.bind awake_head (Ev.now _))
    rw [umpirelaw08_HeadBack.j0, if_pos rfl]
  · simp only [a, decide_false]
    refine Ev.step (fun k => by rw [umpirelaw08_HeadBack.j0, if_neg (by decide)]) ?_
    simp only [hput_spec, Option.bind_some]
    by_cases m : mayv p = true
    · have hle := headv_len p full short
      have hz : (((headv p full short).length : Int) == 0) = false := beq_eq_false_iff_ne.2 (by omega)
      simp only [m, if_true, hz]
      refine Ev.step (fun k => by rw [umpirelaw08_HeadBack.j1, if_neg (by decide)]) ?_
      simp only [Option.bind_some, List.nil_append, List.length_nil, Nat.zero_add, show (headv p full short).length < 140737488355328 by omega, show (headv p full short).length + more.length < 140737488355328 by omega, if_true]
      refine Ev.bind (body_spec _ ((headv_bytes p full short).append hb) (by rw [List.length_append]; omega)) ?_
      have hbv : bodyv (headv p full short ++ more) = (p, more, 0) := by
        unfold bodyv
        rw [headv_back p full short m more]
        simp
      rw [hbv, w64 (by omega) (by omega), Int.tmod_eq_emod_of_nonneg hcu.1]
      have hm0 := Int.emod_nonneg cut (show ((headv p full short).length : Int) ≠ 0 by omega)
      have hm1 := Int.emod_lt_of_pos cut (show (0 : Int) < ((headv p full short).length : Int) by omega)
      simp only [show ¬ (((headv p full short).length : Int) = 0) by omega, hm0, show cut % ((headv p full short).length : Int) ≤ ((headv p full short).length : Int) by omega, if_true, if_false]
      refine Ev.bind (read_spec _ ((headv_bytes p full short).take _)) ?_
      simp only [may_spec, m, Option.bind_some, if_true, headv_cut p full short m _ (by omega : (cut % ((headv p full short).length : Int)).toNat < (headv p full short).length), beq_self_eq_true]
      exact Ev.now _
    · simp only [m, Bool.false_eq_true, if_false, show ¬ ((1 : Int) = 0) by decide]
      refine Ev.step (f := fun _ => some true) (fun k => ?_) (Ev.now _)
      rw [umpirelaw08_HeadBack.j1, if_pos rfl, may_spec]
      simp [m]
end Go.Proofs.Ytjpfhipgffmgjaa.Pure
