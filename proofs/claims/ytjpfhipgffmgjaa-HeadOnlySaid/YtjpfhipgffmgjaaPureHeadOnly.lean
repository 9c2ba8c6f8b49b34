/- The law HeadOnly, over numbers and lists: what head.Read reads is a protocol that may be; put in one of the ways it is what was read; no conditions. -/
import Derived.Test.YtjpfhipgffmgjaaQRefHead
import Derived.Test.YtjpfhipgffmgjaaQAwakeHead
import Derived.Test.YtjpfhipgffmgjaaF10
namespace Go.Proofs.Ytjpfhipgffmgjaa.Pure
open Go.RowKit Go.Proofs.Ytjpfhipgffmgjaa.Print Go.Proofs.Ytjpfhipgffmgjaa.Q Go.Proofs.YtjpfhipgffmgjaaW.PrintWords Go.Proofs.YtjpfhipgffmgjaaW.PrintLast Go.Proofs.YtjpfhipgffmgjaaW.PrintMore
set_option linter.unusedVariables false
set_option linter.unusedSimpArgs false

theorem proto_only (r : List Int) (hb : Bytes r) (at_ : Int) (h : (protoAt r at_).2.2 = 0) : mayv (protoAt r at_).1 = true ∧ ∃ short : Bool, at_ + ((headv (protoAt r at_).1 false short).length : Int) = (protoAt r at_).2.1 ∧ headv (protoAt r at_).1 false short = r.take ((protoAt r at_).2.1 - at_).toNat := by
  unfold protoAt at h ⊢
  cases r with
  | nil => simp at h
  | cons a t =>
    have ha := hb a (by simp)
    by_cases o : a % 2 = 1
    · by_cases f : a = 255
      · simp [f] at h
      · simp only [o, f, if_true, if_false]
        refine ⟨by rw [may_byte ha o]; simp [f], true, ?_⟩
        unfold headv
        simp only [Bool.false_eq_true, if_false, show a < 256 by omega, and_self, if_true, List.nil_append, List.length_cons, List.length_nil, show (at_ + 1 - at_).toNat = 1 by omega, List.take_succ_cons, List.take_zero, show a % 256 = a by omega]
        exact ⟨rfl, trivial⟩
    · simp only [o, if_false] at h ⊢
      cases t with
      | nil => simp at h
      | cons b s =>
        have hbb := hb b (by simp)
        by_cases c : b % 2 = 0 ∨ (a = 0 ∧ b = 255)
        · simp [c] at h
        · simp only [c, if_false]
          refine ⟨by rw [may_two ha hbb o]; simp [c], false, ?_⟩
          unfold headv
          simp only [Bool.false_eq_true, if_false, false_and, List.nil_append, List.length_cons, List.length_nil, show (at_ + 2 - at_).toNat = 2 by omega, List.take_succ_cons, List.take_zero, show (256 * a + b) / 256 % 256 = a by omega, show (256 * a + b) % 256 = b by omega]
          exact ⟨rfl, trivial⟩
theorem read_only (l : List Int) (hb : Bytes l) (h : (readv l).2.2 = 0) : mayv (readv l).1 = true ∧ ∃ full short : Bool, headv (readv l).1 full short = l.take (readv l).2.1.toNat := by
  unfold readv at h ⊢
  cases l with
  | nil => simp at h
  | cons a t =>
    by_cases c : a = 255
    · simp only [c, if_true] at h ⊢
      cases t with
      | nil => simp at h
      | cons b r =>
        by_cases d : b = 3
        · simp only [d, if_true] at h ⊢
          obtain ⟨h1, short, h2, h3⟩ := proto_only r (fun x hx => hb x (by simp [hx])) 2 h
          refine ⟨h1, true, short, ?_⟩
          have e : headv (protoAt r 2).1 true short = 255 :: 3 :: headv (protoAt r 2).1 false short := by
            unfold headv
            simp
          have hle := protoAt_le r 2 h
          rw [e, h3, show (protoAt r 2).2.1.toNat = ((protoAt r 2).2.1 - 2).toNat + 1 + 1 by omega, List.take_succ_cons, List.take_succ_cons]
        · simp [d] at h
    · simp only [c, if_false] at h ⊢
      obtain ⟨h1, short, h2, h3⟩ := proto_only (a :: t) hb 0 h
      exact ⟨h1, false, short, by rw [h3, Int.sub_zero]⟩
theorem only_some (l : List Int) (p at_ : Int) (hl : l.length ≤ 1000) (h0 : 0 ≤ at_) (h1 : at_ ≤ l.length) (m : mayv p = true) (d : Nat) : ∀ (i : Nat) (s : Bool), 4 - i = d → i ≤ 4 →
    (s = true ∨ ∃ j : Nat, i ≤ j ∧ j < 4 ∧ headv p (j % 2 == 1) (j / 2 == 1) = l.take at_.toNat) → Ev (fun k => umpirelaw08_HeadOnly.l0 k l s (i : Int) p at_) true := by
  induction d with
  | zero =>
    intro i s hd hi h
    obtain rfl : s = true := by
      rcases h with h | ⟨j, h2, h3, _⟩
      · exact h
      · omega
    refine Ev.step (f := fun _ => some true) (fun k => ?_) (Ev.now _)
    rw [umpirelaw08_HeadOnly.l0, if_neg (by omega)]
  | succ d ih =>
    intro i s hd hi h
    have e1 : ((Int.tmod (i : Int) 2) == 1) = (i % 2 == 1) := by
      rw [Int.tmod_eq_emod_of_nonneg (by omega), Bool.eq_iff_iff, beq_iff_eq, beq_iff_eq]
      omega
    have e2 : ((wrap64 (Int.tdiv (i : Int) 2)) == 1) = (i / 2 == 1) := by
      rw [Int.tdiv_eq_ediv_of_nonneg (by omega), w64 (by omega) (by omega), Bool.eq_iff_iff, beq_iff_eq, beq_iff_eq]
      omega
    by_cases hs : s = true
    · refine Ev.step (fun k => ?_) (ih (i + 1) true (by omega) (by omega) (.inl rfl))
      rw [umpirelaw08_HeadOnly.l0, if_pos (by omega), hput_spec]
      simp only [Option.bind_some, hs, if_true]
      rw [w64 (by omega) (by omega)]
      rfl
    · have hs' : s = false := by simpa using hs
      refine Ev.step (fun k => ?_) (ih (i + 1) ((strOfNums (headv p (i % 2 == 1) (i / 2 == 1))).toList == (strOfNums (l.take at_.toNat)).toList) (by omega) (by omega) ?_)
      · rw [umpirelaw08_HeadOnly.l0, if_pos (by omega), e1, e2, hput_spec]
        simp only [Option.bind_some, hs', Bool.false_eq_true, if_false, h0, h1, if_true, m]
        rw [w64 (by omega) (by omega)]
        rfl
      · rcases h with h | ⟨j, h2, h3, h4⟩
        · exact absurd h hs
        · rcases Nat.lt_or_ge i j with hij | hij
          · exact .inr ⟨j, hij, h3, h4⟩
          · obtain rfl : j = i := by omega
            left
            rw [h4]
            simp
theorem HeadOnly : umpirelaw08_HeadOnly.Pure := by
  intro l hl1 hl2 hl3
  have hb := bytes_wf hl3
  apply Ev.rounds
  unfold umpirelaw08_HeadOnly.f
  refine Ev.bind awake_head ?_
  simp only [if_true]
  by_cases a : (l.length : Int) > 1000
  · simp only [a, decide_true]
    refine Ev.step (f := fun k => (umpirelaw08_awake.f k).bind fun t => (some t)) (fun k => ?_) (Ev.bind awake_head (Ev.now _))
    rw [umpirelaw08_HeadOnly.j0, if_pos rfl]
  · simp only [a, decide_false]
    refine Ev.step (fun k => by rw [umpirelaw08_HeadOnly.j0, if_neg (by decide)]) ?_
    refine Ev.bind (read_spec l hb) ?_
    by_cases c : (readv l).2.2 = 0
    · have hle := readv_le l c
      obtain ⟨m, full, short, ho⟩ := read_only l hb c
      simp only [c, if_true, show ¬ ((readv l).2.1 < 1) by omega, show ¬ ((readv l).2.1 > (l.length : Int)) by omega, if_false, may_spec, m, Option.bind_some, Bool.not_true]
      refine Ev.step (fun k => by rw [umpirelaw08_HeadOnly.j1, if_neg (by decide)]) ?_
      refine only_some l _ _ (by omega) (by omega) (by omega) m 4 0 false rfl (by decide) (.inr ?_)
      refine ⟨(if full then 1 else 0) + (if short then 2 else 0), by omega, by cases full <;> cases short <;> decide, ?_⟩
      rw [← ho]
      cases full <;> cases short <;> rfl
    · have hz : (readv l).1 = 0 ∧ (readv l).2.1 = 0 := by
        unfold readv protoAt at c ⊢
        repeat' split at c
        all_goals first | (simp_all; done) | simp at c
      simp only [c, if_false, hz.1, hz.2, beq_self_eq_true, Bool.and_self]
      exact Ev.now _
end Go.Proofs.Ytjpfhipgffmgjaa.Pure
