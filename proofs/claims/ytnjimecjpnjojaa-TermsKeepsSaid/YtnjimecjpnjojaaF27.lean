-- laid by this session's own program (wip/mkprint.sh) for this claim
import Derived.Test.Ytnjimecjpnjojaa0
import Derived.Test.YtnjimecjpnjojaaF53
namespace Go.Proofs.Ytnjimecjpnjojaa.Print
open Go.RowKit Go.Proofs.YtnjimecjpnjojaaW.PrintWords Go.Proofs.YtnjimecjpnjojaaW.PrintLast Go.Proofs.YtnjimecjpnjojaaW.PrintMore
attribute [local go_sem] max2_int min2_int max_two min_two max_three min_three max_four min_four   -- for this text's walks alone
set_option linter.unusedVariables false
set_option linter.unusedSimpArgs false

/-! ### terms_Known: function 27 -/
def terms_Known.f (a0 : Int) : Option Bool := if (Lit.int .i64 a0).wf = true then some (decide (terms_readers.fn a0 ≠ -1)) else none
set_option maxHeartbeats 8000000 in
set_option maxRecDepth 100000 in
theorem terms_Known.calls (a0 : Int) (r : Bool) (w : World) (h : terms_Known.f a0 = some r) : Calls Try.prog 27 #[.int .i64 a0] w fun e w' => e = .returned (.bool r) ∧ Below w.heap.size w w' := by
  unfold terms_Known.f at h
  by_cases hw : (Lit.int .i64 a0).wf = true
  · rw [if_pos hw] at h
    have HR := Aside0.mk (Option.some.inj h)
    clear h
    have HWF := Aside0.mk hw
    clear hw
    go_enter Try.func27, Try.ntmps27
    go_wp2_with (fail)
    refine (terms_readers.calls _).mono ?_
    rintro e w1 ⟨b, rfl, hT, hb0, hb⟩
    have hl := terms_readers.Tab.look hT a0 HWF.out
    have HB := Aside0.mk hb
    have n1 := terms_readers.neq_nil
    have n2 := terms_readers.neq_fn
    clear hT hb hb0
    rcases hl with ⟨e1, hl⟩ | ⟨e1, hl⟩
    · have HD : Aside0 (decide (terms_readers.fn a0 ≠ -1) = false) := ⟨decide_eq_false (by simpa using e1)⟩
      clear e1
      go_wp2_with (fail)
      go_ret
      exact ⟨by rw [← HR.out, HD.out]; rfl, HB.out⟩
    · have HD : Aside0 (decide (terms_readers.fn a0 ≠ -1) = true) := ⟨decide_eq_true (by omega)⟩
      clear e1
      go_wp2_with (fail)
      go_ret
      exact ⟨by rw [← HR.out, HD.out]; rfl, HB.out⟩
  · rw [if_neg hw] at h
    cases h

end Go.Proofs.Ytnjimecjpnjojaa.Print
