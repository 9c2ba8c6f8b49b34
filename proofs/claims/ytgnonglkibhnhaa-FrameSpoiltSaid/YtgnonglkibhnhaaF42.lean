-- laid by this session's own program (wip/mkprint.sh) for this claim
import Derived.Test.Ytgnonglkibhnhaa0
import Derived.Test.YtgnonglkibhnhaaF49
namespace Go.Proofs.Ytgnonglkibhnhaa.Print
open Go.RowKit Go.Proofs.YtgnonglkibhnhaaW.PrintWords Go.Proofs.YtgnonglkibhnhaaW.PrintLast Go.Proofs.YtgnonglkibhnhaaW.PrintMore
attribute [local go_sem] max2_int min2_int max_two min_two max_three min_three max_four min_four   -- for this text's walks alone
set_option linter.unusedVariables false
set_option linter.unusedSimpArgs false

/-! ### accm_Apart: function 42 -/
def accm_Apart.f (a0 : Int) (a1 : Int) : Option (Bool) := if a1 = 125 then (some true) else (if a1 = 126 then (some true) else ((accm_Has.f a0 a1).bind fun t101 => (some t101)))
set_option maxHeartbeats 8000000 in
set_option maxRecDepth 100000 in
theorem accm_Apart.calls (a0 : Int) (a1 : Int) (r : Bool) (w : World) (h : accm_Apart.f a0 a1 = some r) :
    Calls Try.prog 42 #[.int .u32 a0, .int .u8 a1] w fun e w' => e = .returned (.bool r) ∧ Drawn0 w w' := by
  have H : (if a1 = 125 then (some true) else (if a1 = 126 then (some true) else ((accm_Has.f a0 a1).bind fun t101 => (some t101)))) = some r := h
  clear h
  by_cases c3 : a1 = 125
  · rw [if_pos c3] at H
    have c3b0 : (a1 == 125) = true := beq_iff_eq.mpr c3
    have c3b1 : (a1 != 125) = false := bne_eq_false_iff_eq.mpr c3
    clear c3
    obtain rfl := Option.some.inj H
    go_enter Try.func42, Try.ntmps42
    go_wp2
    go_ret
    exact ⟨by first | rfl | (simp; done) | (simp [*]; done), by repeat (first | exact Drawn0.refl _ | apply Drawn0.step)⟩
  · rw [if_neg c3] at H
    have c3b0 : (a1 == 125) = false := beq_eq_false_iff_ne.mpr c3
    have c3b1 : (a1 != 125) = true := bne_iff_ne.mpr c3
    by_cases c4 : a1 = 126
    · rw [if_pos c4] at H
      have c4b0 : (a1 == 126) = true := beq_iff_eq.mpr c4
      have c4b1 : (a1 != 126) = false := bne_eq_false_iff_eq.mpr c4
      clear c4
      obtain rfl := Option.some.inj H
      go_enter Try.func42, Try.ntmps42
      go_wp2
      go_ret
      exact ⟨by first | rfl | (simp; done) | (simp [*]; done), by repeat (first | exact Drawn0.refl _ | apply Drawn0.step)⟩
    · rw [if_neg c4] at H
      have c4b0 : (a1 == 126) = false := beq_eq_false_iff_ne.mpr c4
      have c4b1 : (a1 != 126) = true := bne_iff_ne.mpr c4
      replace H := Option.bind_eq_some_iff.mp H
      obtain ⟨t101, A50, H⟩ := H
      replace H : (some t101) = some r := H
      have A5 := Aside0.mk A50
      clear A50
      obtain rfl := Option.some.inj H
      go_enter Try.func42, Try.ntmps42
      go_wp2_with (first | (go_at_call 49; (with_reducible refine (accm_Has.calls a0 a1 t101 _ A5.out).mono ?_); rintro e w' ⟨rfl, ⟨nd, rfl⟩⟩))
      go_ret
      exact ⟨by first | rfl | (simp; done) | (simp [*]; done), by repeat (first | exact Drawn0.refl _ | apply Drawn0.step)⟩

end Go.Proofs.Ytgnonglkibhnhaa.Print
