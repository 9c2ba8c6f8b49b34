/- The law FcsParts, over numbers and lists: the register behind two parts is the second one's, from the first one's on; no conditions. -/
import Derived.Test.YtnokndhppdkmdaaQFcs
import Derived.Test.YtnokndhppdkmdaaQAwakeFcs
import Derived.Test.YtnokndhppdkmdaaF6
namespace Go.Proofs.Ytnokndhppdkmdaa.Pure
open Go.RowKit Go.Proofs.Ytnokndhppdkmdaa.Print Go.Proofs.Ytnokndhppdkmdaa.Q Go.Proofs.YtnokndhppdkmdaaW.PrintWords Go.Proofs.YtnokndhppdkmdaaW.PrintLast Go.Proofs.YtnokndhppdkmdaaW.PrintMore
set_option linter.unusedVariables false
set_option linter.unusedSimpArgs false

theorem one_mod (wide : Bool) : 4294967295 % 2 ^ wid wide = allN wide := by cases wide <;> decide
theorem FcsParts : umpirelaw04_FcsParts.Pure := by
  intro l at_ wide hl1 hl2 hl3 hat
  obtain ⟨h0, h1⟩ := wf_u16 hat
  have hb := bytes_wf hl3
  apply Ev.rounds
  unfold umpirelaw04_FcsParts.f
  refine Ev.bind awake_fcs ?_
  simp only [if_true]
  by_cases a : (l.length : Int) > 2000
  · simp only [a, decide_true]
    refine Ev.step (f := fun k => (umpirelaw04_awake.f k).bind fun t => (some t)) (fun k => ?_) (Ev.bind awake_fcs (Ev.now _))
    rw [umpirelaw04_FcsParts.j0, if_pos rfl]
  · simp only [a, decide_false]
    have t0 : Int.tmod (wrap64 at_) (wrap64 ((l.length : Int) + 1)) = at_ % ((l.length : Int) + 1) := by
      rw [w64 (by omega) (by omega), w64 (by omega) (by omega), Int.tmod_eq_emod_of_nonneg h0]
    have t1 : 0 ≤ at_ % ((l.length : Int) + 1) := Int.emod_nonneg _ (by omega)
    have t2 : at_ % ((l.length : Int) + 1) < (l.length : Int) + 1 := Int.emod_lt_of_pos _ (by omega)
    have one : ∀ (x : List Int) (w : Bool), Bytes x → fcs_More.f 4294967295 x w = some ((moreN (byN w) (allN w) x : Nat) : Int) := fun x w hx => by
      have := more_spec 4294967295 x w (by decide) hx
      rwa [one_mod] at this
    generalize ha : (at_ % ((l.length : Int) + 1)) = n at t0 t1 t2
    have hm := more_lt (l.take n.toNat) wide _ (allN_lt wide) (hb.take _)
    have two := more_spec (moreN (byN wide) (allN wide) (l.take n.toNat)) (l.drop n.toNat) wide (lt32 hm) (hb.drop _)
    rw [Nat.mod_eq_of_lt hm, ← moreN_append, List.take_append_drop] at two
    refine Ev.step (f := fun _ => some true) (fun k => ?_) (Ev.now _)
    rw [umpirelaw04_FcsParts.j0, if_neg (by decide), if_neg (by rw [w64 (by omega) (by omega)]; omega), t0, if_pos t1, if_pos (by omega), one _ wide (hb.take _), Option.bind_some, two, Option.bind_some, one _ wide hb, Option.bind_some, if_pos rfl, one [] false Bytes.nil, Option.bind_some]
    rfl
end Go.Proofs.Ytnokndhppdkmdaa.Pure
