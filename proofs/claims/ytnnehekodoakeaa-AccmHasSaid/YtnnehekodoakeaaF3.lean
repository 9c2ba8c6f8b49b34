-- laid by this session's own program (wip/mkprint.sh) for this claim
import Derived.Test.Ytnnehekodoakeaa0
import Derived.Test.YtnnehekodoakeaaF14
import Derived.Test.YtnnehekodoakeaaF15
import Derived.Test.YtnnehekodoakeaaF16
import Derived.Test.YtnnehekodoakeaaF17
import Derived.Test.YtnnehekodoakeaaF18
namespace Go.Proofs.Ytnnehekodoakeaa.Print
open Go.RowKit Go.Proofs.YtnnehekodoakeaaW.PrintWords Go.Proofs.YtnnehekodoakeaaW.PrintLast Go.Proofs.YtnnehekodoakeaaW.PrintMore
attribute [local go_sem] max2_int min2_int max_two min_two max_three min_three max_four min_four   -- for this text's walks alone
set_option linter.unusedVariables false
set_option linter.unusedSimpArgs false

/-! ### umpirelaw05_AccmHas: function 3 -/
def umpirelaw05_AccmHas.f (k : Nat) (a0 : Int) (a1 : Int) : Option (Bool) := (umpirelaw05_awake.f k).bind fun t148 => (if t148 = true then ((accm_Has.f a0 a1).bind fun t149 => ((umpireref05_Has.f k a0 a1).bind fun t150 => (if (t149 == t150) = true then ((accm_Apart.f a0 a1).bind fun t151 => ((umpireref05_Apart.f k a0 a1).bind fun t152 => (some (t151 == t152)))) else (none)))) else (none))
theorem umpirelaw05_AccmHas.mono : ∀ a0 a1 k, LeO (umpirelaw05_AccmHas.f k a0 a1) (umpirelaw05_AccmHas.f (k + 1) a0 a1) := by
  intro a0 a1 k
  unfold umpirelaw05_AccmHas.f
  repeat' first
      | (with_reducible exact umpirelaw05_awake.mono _)
      | (with_reducible exact umpireref05_Apart.mono _ _ _)
      | (with_reducible exact umpireref05_Has.mono _ _ _)
      | (with_reducible exact LeO.refl _)
      | (with_reducible exact LeO.none _)
      | (with_reducible refine LeO.ite ?_ ?_)
      | (with_reducible refine LeO.bind ?_ (fun _ => ?_))
      | exact umpirelaw05_awake.mono _
      | exact umpireref05_Apart.mono _ _ _
      | exact umpireref05_Has.mono _ _ _
      | exact LeO.none _
      | refine LeO.ite ?_ ?_
      | refine LeO.bind ?_ (fun _ => ?_)
set_option maxHeartbeats 8000000 in
set_option maxRecDepth 100000 in
theorem umpirelaw05_AccmHas.calls (k : Nat) (a0 : Int) (a1 : Int) (r : Bool) (w : World) (h : umpirelaw05_AccmHas.f k a0 a1 = some r) :
    Calls Try.prog 3 #[.int .u32 a0, .int .u8 a1] w fun e w' => e = .returned (.bool r) ∧ Below w.heap.size w w' := by
  have HB := Aside0.mk (Below.refl w.heap.size w)
  have H : ((umpirelaw05_awake.f k).bind fun t148 => (if t148 = true then ((accm_Has.f a0 a1).bind fun t149 => ((umpireref05_Has.f k a0 a1).bind fun t150 => (if (t149 == t150) = true then ((accm_Apart.f a0 a1).bind fun t151 => ((umpireref05_Apart.f k a0 a1).bind fun t152 => (some (t151 == t152)))) else (none)))) else (none))) = some r := h
  clear h
  replace H := Option.bind_eq_some_iff.mp H
  obtain ⟨t148, A30, H⟩ := H
  replace H : (if t148 = true then ((accm_Has.f a0 a1).bind fun t149 => ((umpireref05_Has.f k a0 a1).bind fun t150 => (if (t149 == t150) = true then ((accm_Apart.f a0 a1).bind fun t151 => ((umpireref05_Apart.f k a0 a1).bind fun t152 => (some (t151 == t152)))) else (none)))) else (none)) = some r := H
  have A3 := Aside0.mk A30
  clear A30
  by_cases c4 : t148 = true
  · subst c4
    have H1 : ((accm_Has.f a0 a1).bind fun t149 => ((umpireref05_Has.f k a0 a1).bind fun t150 => (if (t149 == t150) = true then ((accm_Apart.f a0 a1).bind fun t151 => ((umpireref05_Apart.f k a0 a1).bind fun t152 => (some (t151 == t152)))) else (none)))) = some r := by rw [if_pos rfl] at H; exact H
    clear H
    have H := H1
    clear H1
    replace H := Option.bind_eq_some_iff.mp H
    obtain ⟨t149, A50, H⟩ := H
    replace H : ((umpireref05_Has.f k a0 a1).bind fun t150 => (if (t149 == t150) = true then ((accm_Apart.f a0 a1).bind fun t151 => ((umpireref05_Apart.f k a0 a1).bind fun t152 => (some (t151 == t152)))) else (none))) = some r := H
    have A5 := Aside0.mk A50
    clear A50
    replace H := Option.bind_eq_some_iff.mp H
    obtain ⟨t150, A60, H⟩ := H
    replace H : (if (t149 == t150) = true then ((accm_Apart.f a0 a1).bind fun t151 => ((umpireref05_Apart.f k a0 a1).bind fun t152 => (some (t151 == t152)))) else (none)) = some r := H
    have A6 := Aside0.mk A60
    clear A60
    by_cases c7 : (t149 == t150) = true
    · rw [if_pos c7] at H
      have c7b0 : (t149 == t150) = true := c7
      (try (have c7b1 : decide (t149 = t150) = true := by simpa using c7))
      (try (have c7b2 : (t149 == t150) = true := by simpa using c7))
      clear c7
      replace H := Option.bind_eq_some_iff.mp H
      obtain ⟨t151, A80, H⟩ := H
      replace H : ((umpireref05_Apart.f k a0 a1).bind fun t152 => (some (t151 == t152))) = some r := H
      have A8 := Aside0.mk A80
      clear A80
      replace H := Option.bind_eq_some_iff.mp H
      obtain ⟨t152, A90, H⟩ := H
      replace H : (some (t151 == t152)) = some r := H
      have A9 := Aside0.mk A90
      clear A90
      obtain rfl := Option.some.inj H
      go_enter Try.func3, Try.ntmps3
      go_wp2_with (first | ((with_reducible refine gate_callee (f := 14) rfl ?_); refine goesL_ (some 5) rfl rfl Try.func14 (by kernel_rfl) rfl #[] rfl (by (try simp only [List.map_toArray, List.map_cons, List.map_nil]); first | done | rfl | (simp only [List.length_drop, List.length_take]; rfl)) ?_; (with_reducible refine (umpirelaw05_awake.calls k  true _ A3.out).mono ?_); rintro e w10 ⟨rfl, hb⟩; refine ⟨_, rfl, ?_⟩; have n0_ := Aside0.mk (below_step (by repeat (first | (with_reducible first | exact HB.out | apply below_alloc | apply pw_below_drewN | apply below_drew1) | exact HB.out)) hb); clear HB; have HB := n0_; clear n0_; (try clear hb); (try clear hb2); (try clear hk); (try clear hi)) | (go_at_call 15; (with_reducible refine (accm_Has.calls a0 a1 t149 _ A5.out).mono ?_); rintro e w' ⟨rfl, ⟨nd, rfl⟩⟩) | (go_at_call 16; (with_reducible refine (umpireref05_Has.calls k a0 a1 t150 _ A6.out).mono ?_); rintro e w' ⟨rfl, ⟨nd, rfl⟩⟩) | (go_at_call 17; (with_reducible refine (accm_Apart.calls a0 a1 t151 _ A8.out).mono ?_); rintro e w' ⟨rfl, ⟨nd, rfl⟩⟩) | (go_at_call 18; (with_reducible refine (umpireref05_Apart.calls k a0 a1 t152 _ A9.out).mono ?_); rintro e w' ⟨rfl, ⟨nd, rfl⟩⟩))
      go_ret
      exact ⟨by first | rfl | (simp [errW_none, errW_some] <;> rfl) | (simp [*, errW_none, errW_some] <;> rfl), by repeat (first | (with_reducible first | exact HB.out | apply below_alloc | apply pw_below_drewN | apply below_drew1) | exact HB.out)⟩
    · rw [if_neg c7] at H
      exact absurd H (by simp)
  · replace c4 := Bool.eq_false_iff.mpr c4
    subst c4
    have H1 : (none) = some r := by rw [if_neg (show ¬ (false = true) by decide)] at H; exact H
    clear H
    have H := H1
    clear H1
    exact absurd H (by simp)

/-- THE ONE PURE STATEMENT of umpirelaw05_AccmHas: yours. -/
def umpirelaw05_AccmHas.Pure : Prop := ∀ (a0 : Int) (a1 : Int), (Lit.int .u32 a0).wf = true → (Lit.int .u8 a1).wf = true → ∃ k, umpirelaw05_AccmHas.f k a0 a1 = some true
theorem umpirelaw05_AccmHas.walk (P : umpirelaw05_AccmHas.Pure) (a0 : Int) (a1 : Int) (w : World) (w0 : (Lit.int .u32 a0).wf = true) (w1 : (Lit.int .u8 a1).wf = true) :
    Calls Try.prog 3 #[.int .u32 a0, .int .u8 a1] w fun e w' => e = .returned (.bool true) ∧ Below w.heap.size w w' := by
  obtain ⟨k, h⟩ := P a0 a1 w0 w1
  refine (umpirelaw05_AccmHas.calls k a0 a1 true w h).mono ?_
  rintro e w' ⟨rfl, hd⟩
  exact ⟨rfl, hd⟩

end Go.Proofs.Ytnnehekodoakeaa.Print
