-- laid by this session's own program (wip/mkprint.sh) for this claim
import Derived.Test.Ytgnonglkibhnhaa0
import Derived.Test.YtgnonglkibhnhaaF45
namespace Go.Proofs.Ytgnonglkibhnhaa.Print
open Go.RowKit Go.Proofs.YtgnonglkibhnhaaW.PrintWords Go.Proofs.YtgnonglkibhnhaaW.PrintLast Go.Proofs.YtgnonglkibhnhaaW.PrintMore
attribute [local go_sem] max2_int min2_int max_two min_two max_three min_three max_four min_four   -- for this text's walks alone
set_option linter.unusedVariables false
set_option linter.unusedSimpArgs false

/-! ### umpireref05_Apart: function 35 -/
def umpireref05_Apart.f (k : Nat) (a0 : Int) (a1 : Int) : Option (Bool) := if a1 = 125 then (some true) else (if a1 = 126 then (some true) else ((umpireref05_Has.f k a0 a1).bind fun t225 => (some t225)))
theorem umpireref05_Apart.mono : ∀ a0 a1 k, LeO (umpireref05_Apart.f k a0 a1) (umpireref05_Apart.f (k + 1) a0 a1) := by
  intro a0 a1 k
  unfold umpireref05_Apart.f
  repeat' first
      | (with_reducible exact umpireref05_Has.mono _ _ _)
      | (with_reducible exact LeO.refl _)
      | (with_reducible exact LeO.none _)
      | (with_reducible refine LeO.ite ?_ ?_)
      | (with_reducible refine LeO.bind ?_ (fun _ => ?_))
      | exact umpireref05_Has.mono _ _ _
      | exact LeO.none _
      | refine LeO.ite ?_ ?_
      | refine LeO.bind ?_ (fun _ => ?_)
set_option maxHeartbeats 8000000 in
set_option maxRecDepth 100000 in
theorem umpireref05_Apart.calls (k : Nat) (a0 : Int) (a1 : Int) (r : Bool) (w : World) (h : umpireref05_Apart.f k a0 a1 = some r) :
    Calls Try.prog 35 #[.int .u32 a0, .int .u8 a1] w fun e w' => e = .returned (.bool r) ∧ Drawn0 w w' := by
  have H : (if a1 = 125 then (some true) else (if a1 = 126 then (some true) else ((umpireref05_Has.f k a0 a1).bind fun t225 => (some t225)))) = some r := h
  clear h
  by_cases c3 : a1 = 125
  · rw [if_pos c3] at H
    have c3b0 : (a1 == 125) = true := beq_iff_eq.mpr c3
    have c3b1 : (a1 != 125) = false := bne_eq_false_iff_eq.mpr c3
    clear c3
    obtain rfl := Option.some.inj H
    go_enter Try.func35, Try.ntmps35
    go_wp2
    go_ret
    exact ⟨by first | rfl | (simp; done) | (simp [*]; done), by repeat (first | exact Drawn0.refl _ | apply Drawn0.step)⟩
  · rw [if_neg c3] at H
    have c3b0 : (a1 == 125) = false := beq_eq_false_iff_ne.mpr c3
    have c3b1 : (a1 != 125) = true := bne_iff_ne.mpr c3
    by_cases c4 : a1 = 126
    · rw [if_pos c4] at H
      have c4b0 : (a1 == 126) = true := beq_iff_eq.mpr c4
      have c4b1 : (a1 != 126) = false := bne_eq_false_iff_eq.mpr c4
      clear c4
      obtain rfl := Option.some.inj H
      go_enter Try.func35, Try.ntmps35
      go_wp2
      go_ret
      exact ⟨by first | rfl | (simp; done) | (simp [*]; done), by repeat (first | exact Drawn0.refl _ | apply Drawn0.step)⟩
    · rw [if_neg c4] at H
      have c4b0 : (a1 == 126) = false := beq_eq_false_iff_ne.mpr c4
      have c4b1 : (a1 != 126) = true := bne_iff_ne.mpr c4
      replace H := Option.bind_eq_some_iff.mp H
      obtain ⟨t225, A50, H⟩ := H
      replace H : (some t225) = some r := H
      have A5 := Aside0.mk A50
      clear A50
      obtain rfl := Option.some.inj H
      go_enter Try.func35, Try.ntmps35
      go_wp2_with (first | (go_at_call 45; (with_reducible refine (umpireref05_Has.calls k a0 a1 t225 _ A5.out).mono ?_); rintro e w' ⟨rfl, ⟨nd, rfl⟩⟩))
      go_ret
      exact ⟨by first | rfl | (simp; done) | (simp [*]; done), by repeat (first | exact Drawn0.refl _ | apply Drawn0.step)⟩

end Go.Proofs.Ytgnonglkibhnhaa.Print
