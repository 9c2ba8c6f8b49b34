-- laid by this session's own program (wip/mkprint.sh) for this claim
import Derived.Test.Ytnnehekodoakeaa0
import Derived.Test.YtnnehekodoakeaaF15
import Derived.Test.YtnnehekodoakeaaF17
import Derived.Test.YtnnehekodoakeaaF19
import Derived.Test.YtnnehekodoakeaaF21
import Derived.Test.YtnnehekodoakeaaF23
import Derived.Test.YtnnehekodoakeaaF25
namespace Go.Proofs.Ytnnehekodoakeaa.Print
open Go.RowKit Go.Proofs.YtnnehekodoakeaaW.PrintWords Go.Proofs.YtnnehekodoakeaaW.PrintLast Go.Proofs.YtnnehekodoakeaaW.PrintMore
attribute [local go_sem] max2_int min2_int max_two min_two max_three min_three max_four min_four   -- for this text's walks alone
set_option linter.unusedVariables false
set_option linter.unusedSimpArgs false

/-! ### umpirelaw05_awake: function 14 -/
def umpirelaw05_awake.f (k : Nat)  : Option (Bool) := (accm_Get.f k (([0, 10, 0, 0] : List Int))).bind fun bt128 => ((accm_Get.f k ([] : List Int)).bind fun bt130 => ((accm_With.f k 0 (([17, 19, 200] : List Int))).bind fun t135 => (if t135 = 655360 then ((accm_List.f k 655360).bind fun t136 => (if (strOfNums t136).toList = ([17, 19] : List UInt8) then (if bt128.2 = true then (if bt128.1 = 655360 then (if bt130.2 = true then (none) else ((accm_Put.f k bt128.1).bind fun t139 => (if (strOfNums t139).toList = ([0, 10, 0, 0] : List UInt8) then ((accm_Has.f 1 0).bind fun t142 => (if t142 = true then ((accm_Has.f 1 32).bind fun t143 => (if t143 = true then (none) else ((accm_Apart.f 0 125).bind fun t144 => (if t144 = true then ((accm_Apart.f 0 126).bind fun t145 => (if t145 = true then ((accm_Apart.f 0 0).bind fun t146 => (some (!t146))) else (none))) else (none))))) else (none))) else (none)))) else (none)) else (none)) else (none))) else (none))))
theorem umpirelaw05_awake.mono : ∀ k, LeO (umpirelaw05_awake.f k ) (umpirelaw05_awake.f (k + 1) ) := by
  intro  k
  unfold umpirelaw05_awake.f
  repeat' first
      | (with_reducible exact accm_Get.mono _ _)
      | (with_reducible exact accm_List.mono _ _)
      | (with_reducible exact accm_Put.mono _ _)
      | (with_reducible exact accm_With.mono _ _ _)
      | (with_reducible exact LeO.refl _)
      | (with_reducible exact LeO.none _)
      | (with_reducible refine LeO.ite ?_ ?_)
      | (with_reducible refine LeO.bind ?_ (fun _ => ?_))
      | exact accm_Get.mono _ _
      | exact accm_List.mono _ _
      | exact accm_Put.mono _ _
      | exact accm_With.mono _ _ _
      | exact LeO.none _
      | refine LeO.ite ?_ ?_
      | refine LeO.bind ?_ (fun _ => ?_)
set_option maxHeartbeats 8000000 in
set_option maxRecDepth 100000 in
theorem umpirelaw05_awake.calls (k : Nat)  (r : Bool) (w : World) (h : umpirelaw05_awake.f k  = some r) :
    Calls Try.prog 14 #[] w fun e w' => e = .returned (.bool r) ∧ Below w.heap.size w w' := by
  have HB := Aside0.mk (Below.refl w.heap.size w)
  have H : ((accm_Get.f k (([0, 10, 0, 0] : List Int))).bind fun bt128 => ((accm_Get.f k ([] : List Int)).bind fun bt130 => ((accm_With.f k 0 (([17, 19, 200] : List Int))).bind fun t135 => (if t135 = 655360 then ((accm_List.f k 655360).bind fun t136 => (if (strOfNums t136).toList = ([17, 19] : List UInt8) then (if bt128.2 = true then (if bt128.1 = 655360 then (if bt130.2 = true then (none) else ((accm_Put.f k bt128.1).bind fun t139 => (if (strOfNums t139).toList = ([0, 10, 0, 0] : List UInt8) then ((accm_Has.f 1 0).bind fun t142 => (if t142 = true then ((accm_Has.f 1 32).bind fun t143 => (if t143 = true then (none) else ((accm_Apart.f 0 125).bind fun t144 => (if t144 = true then ((accm_Apart.f 0 126).bind fun t145 => (if t145 = true then ((accm_Apart.f 0 0).bind fun t146 => (some (!t146))) else (none))) else (none))))) else (none))) else (none)))) else (none)) else (none)) else (none))) else (none))))) = some r := h
  clear h
  obtain ⟨y125, hy125⟩ : ∃ y_ : List Int, y_ = (([0, 10, 0, 0] : List Int)) := ⟨_, rfl⟩
  replace H : ((accm_Get.f k y125).bind fun bt128 => ((accm_Get.f k ([] : List Int)).bind fun bt130 => ((accm_With.f k 0 (([17, 19, 200] : List Int))).bind fun t135 => (if t135 = 655360 then ((accm_List.f k 655360).bind fun t136 => (if (strOfNums t136).toList = ([17, 19] : List UInt8) then (if bt128.2 = true then (if bt128.1 = 655360 then (if bt130.2 = true then (none) else ((accm_Put.f k bt128.1).bind fun t139 => (if (strOfNums t139).toList = ([0, 10, 0, 0] : List UInt8) then ((accm_Has.f 1 0).bind fun t142 => (if t142 = true then ((accm_Has.f 1 32).bind fun t143 => (if t143 = true then (none) else ((accm_Apart.f 0 125).bind fun t144 => (if t144 = true then ((accm_Apart.f 0 126).bind fun t145 => (if t145 = true then ((accm_Apart.f 0 0).bind fun t146 => (some (!t146))) else (none))) else (none))))) else (none))) else (none)))) else (none)) else (none)) else (none))) else (none))))) = some r := by first | (rw [hy125]; with_reducible exact H) | (have H2_ := (Option.bind_some _ _).symm.trans H; rw [hy125]; with_reducible exact H2_) | (have H2_ := (Option.bind_some _ _).symm.trans H; with_reducible exact H2_) | with_reducible exact H | (rw [hy125]; exact H) | exact H
  have Ny125 := Aside0.mk hy125
  clear hy125
  replace H := Option.bind_eq_some_iff.mp H
  obtain ⟨⟨t128, t129⟩, A10, H⟩ := H
  replace H : ((accm_Get.f k ([] : List Int)).bind fun bt130 => ((accm_With.f k 0 (([17, 19, 200] : List Int))).bind fun t135 => (if t135 = 655360 then ((accm_List.f k 655360).bind fun t136 => (if (strOfNums t136).toList = ([17, 19] : List UInt8) then (if t129 = true then (if t128 = 655360 then (if bt130.2 = true then (none) else ((accm_Put.f k t128).bind fun t139 => (if (strOfNums t139).toList = ([0, 10, 0, 0] : List UInt8) then ((accm_Has.f 1 0).bind fun t142 => (if t142 = true then ((accm_Has.f 1 32).bind fun t143 => (if t143 = true then (none) else ((accm_Apart.f 0 125).bind fun t144 => (if t144 = true then ((accm_Apart.f 0 126).bind fun t145 => (if t145 = true then ((accm_Apart.f 0 0).bind fun t146 => (some (!t146))) else (none))) else (none))))) else (none))) else (none)))) else (none)) else (none)) else (none))) else (none)))) = some r := H
  have A1 := Aside0.mk A10
  clear A10
  replace H := Option.bind_eq_some_iff.mp H
  obtain ⟨⟨t130, t131⟩, A20, H⟩ := H
  replace H : ((accm_With.f k 0 (([17, 19, 200] : List Int))).bind fun t135 => (if t135 = 655360 then ((accm_List.f k 655360).bind fun t136 => (if (strOfNums t136).toList = ([17, 19] : List UInt8) then (if t129 = true then (if t128 = 655360 then (if t131 = true then (none) else ((accm_Put.f k t128).bind fun t139 => (if (strOfNums t139).toList = ([0, 10, 0, 0] : List UInt8) then ((accm_Has.f 1 0).bind fun t142 => (if t142 = true then ((accm_Has.f 1 32).bind fun t143 => (if t143 = true then (none) else ((accm_Apart.f 0 125).bind fun t144 => (if t144 = true then ((accm_Apart.f 0 126).bind fun t145 => (if t145 = true then ((accm_Apart.f 0 0).bind fun t146 => (some (!t146))) else (none))) else (none))))) else (none))) else (none)))) else (none)) else (none)) else (none))) else (none))) = some r := H
  have A2 := Aside0.mk A20
  clear A20
  obtain ⟨y132, hy132⟩ : ∃ y_ : List Int, y_ = (([17, 19, 200] : List Int)) := ⟨_, rfl⟩
  replace H : ((accm_With.f k 0 y132).bind fun t135 => (if t135 = 655360 then ((accm_List.f k 655360).bind fun t136 => (if (strOfNums t136).toList = ([17, 19] : List UInt8) then (if t129 = true then (if t128 = 655360 then (if t131 = true then (none) else ((accm_Put.f k t128).bind fun t139 => (if (strOfNums t139).toList = ([0, 10, 0, 0] : List UInt8) then ((accm_Has.f 1 0).bind fun t142 => (if t142 = true then ((accm_Has.f 1 32).bind fun t143 => (if t143 = true then (none) else ((accm_Apart.f 0 125).bind fun t144 => (if t144 = true then ((accm_Apart.f 0 126).bind fun t145 => (if t145 = true then ((accm_Apart.f 0 0).bind fun t146 => (some (!t146))) else (none))) else (none))))) else (none))) else (none)))) else (none)) else (none)) else (none))) else (none))) = some r := by first | (rw [hy132]; with_reducible exact H) | (have H2_ := (Option.bind_some _ _).symm.trans H; rw [hy132]; with_reducible exact H2_) | (have H2_ := (Option.bind_some _ _).symm.trans H; with_reducible exact H2_) | with_reducible exact H | (rw [hy132]; exact H) | exact H
  have Ny132 := Aside0.mk hy132
  clear hy132
  replace H := Option.bind_eq_some_iff.mp H
  obtain ⟨t135, A30, H⟩ := H
  replace H : (if t135 = 655360 then ((accm_List.f k 655360).bind fun t136 => (if (strOfNums t136).toList = ([17, 19] : List UInt8) then (if t129 = true then (if t128 = 655360 then (if t131 = true then (none) else ((accm_Put.f k t128).bind fun t139 => (if (strOfNums t139).toList = ([0, 10, 0, 0] : List UInt8) then ((accm_Has.f 1 0).bind fun t142 => (if t142 = true then ((accm_Has.f 1 32).bind fun t143 => (if t143 = true then (none) else ((accm_Apart.f 0 125).bind fun t144 => (if t144 = true then ((accm_Apart.f 0 126).bind fun t145 => (if t145 = true then ((accm_Apart.f 0 0).bind fun t146 => (some (!t146))) else (none))) else (none))))) else (none))) else (none)))) else (none)) else (none)) else (none))) else (none)) = some r := H
  have A3 := Aside0.mk A30
  clear A30
  by_cases c4 : t135 = 655360
  · rw [if_pos c4] at H
    have c4b0 : (t135 == 655360) = true := beq_iff_eq.mpr c4
    have c4b1 : (t135 != 655360) = false := bne_eq_false_iff_eq.mpr c4
    clear c4
    replace H := Option.bind_eq_some_iff.mp H
    obtain ⟨t136, A50, H⟩ := H
    replace H : (if (strOfNums t136).toList = ([17, 19] : List UInt8) then (if t129 = true then (if t128 = 655360 then (if t131 = true then (none) else ((accm_Put.f k t128).bind fun t139 => (if (strOfNums t139).toList = ([0, 10, 0, 0] : List UInt8) then ((accm_Has.f 1 0).bind fun t142 => (if t142 = true then ((accm_Has.f 1 32).bind fun t143 => (if t143 = true then (none) else ((accm_Apart.f 0 125).bind fun t144 => (if t144 = true then ((accm_Apart.f 0 126).bind fun t145 => (if t145 = true then ((accm_Apart.f 0 0).bind fun t146 => (some (!t146))) else (none))) else (none))))) else (none))) else (none)))) else (none)) else (none)) else (none)) = some r := H
    have A5 := Aside0.mk A50
    clear A50
    by_cases c6 : (strOfNums t136).toList = ([17, 19] : List UInt8)
    · rw [if_pos c6] at H
      have c6b0 : ((strOfNums t136).toList == ([17, 19] : List UInt8)) = true := beq_iff_eq.mpr c6
      have c6b1 : ((strOfNums t136).toList != ([17, 19] : List UInt8)) = false := bne_eq_false_iff_eq.mpr c6
      clear c6
      by_cases c7 : t129 = true
      · subst c7
        have H1 : (if t128 = 655360 then (if t131 = true then (none) else ((accm_Put.f k t128).bind fun t139 => (if (strOfNums t139).toList = ([0, 10, 0, 0] : List UInt8) then ((accm_Has.f 1 0).bind fun t142 => (if t142 = true then ((accm_Has.f 1 32).bind fun t143 => (if t143 = true then (none) else ((accm_Apart.f 0 125).bind fun t144 => (if t144 = true then ((accm_Apart.f 0 126).bind fun t145 => (if t145 = true then ((accm_Apart.f 0 0).bind fun t146 => (some (!t146))) else (none))) else (none))))) else (none))) else (none)))) else (none)) = some r := by rw [if_pos rfl] at H; exact H
        clear H
        have H := H1
        clear H1
        by_cases c8 : t128 = 655360
        · rw [if_pos c8] at H
          have c8b0 : (t128 == 655360) = true := beq_iff_eq.mpr c8
          have c8b1 : (t128 != 655360) = false := bne_eq_false_iff_eq.mpr c8
          clear c8
          by_cases c9 : t131 = true
          · subst c9
            have H1 : (none) = some r := by rw [if_pos rfl] at H; exact H
            clear H
            have H := H1
            clear H1
            exact absurd H (by simp)
          · replace c9 := Bool.eq_false_iff.mpr c9
            subst c9
            have H1 : ((accm_Put.f k t128).bind fun t139 => (if (strOfNums t139).toList = ([0, 10, 0, 0] : List UInt8) then ((accm_Has.f 1 0).bind fun t142 => (if t142 = true then ((accm_Has.f 1 32).bind fun t143 => (if t143 = true then (none) else ((accm_Apart.f 0 125).bind fun t144 => (if t144 = true then ((accm_Apart.f 0 126).bind fun t145 => (if t145 = true then ((accm_Apart.f 0 0).bind fun t146 => (some (!t146))) else (none))) else (none))))) else (none))) else (none))) = some r := by rw [if_neg (show ¬ (false = true) by decide)] at H; exact H
            clear H
            have H := H1
            clear H1
            replace H := Option.bind_eq_some_iff.mp H
            obtain ⟨t139, A100, H⟩ := H
            replace H : (if (strOfNums t139).toList = ([0, 10, 0, 0] : List UInt8) then ((accm_Has.f 1 0).bind fun t142 => (if t142 = true then ((accm_Has.f 1 32).bind fun t143 => (if t143 = true then (none) else ((accm_Apart.f 0 125).bind fun t144 => (if t144 = true then ((accm_Apart.f 0 126).bind fun t145 => (if t145 = true then ((accm_Apart.f 0 0).bind fun t146 => (some (!t146))) else (none))) else (none))))) else (none))) else (none)) = some r := H
            have A10 := Aside0.mk A100
            clear A100
            by_cases c11 : (strOfNums t139).toList = ([0, 10, 0, 0] : List UInt8)
            · rw [if_pos c11] at H
              have c11b0 : ((strOfNums t139).toList == ([0, 10, 0, 0] : List UInt8)) = true := beq_iff_eq.mpr c11
              have c11b1 : ((strOfNums t139).toList != ([0, 10, 0, 0] : List UInt8)) = false := bne_eq_false_iff_eq.mpr c11
              clear c11
              replace H := Option.bind_eq_some_iff.mp H
              obtain ⟨t142, A120, H⟩ := H
              replace H : (if t142 = true then ((accm_Has.f 1 32).bind fun t143 => (if t143 = true then (none) else ((accm_Apart.f 0 125).bind fun t144 => (if t144 = true then ((accm_Apart.f 0 126).bind fun t145 => (if t145 = true then ((accm_Apart.f 0 0).bind fun t146 => (some (!t146))) else (none))) else (none))))) else (none)) = some r := H
              have A12 := Aside0.mk A120
              clear A120
              by_cases c13 : t142 = true
              · subst c13
                have H1 : ((accm_Has.f 1 32).bind fun t143 => (if t143 = true then (none) else ((accm_Apart.f 0 125).bind fun t144 => (if t144 = true then ((accm_Apart.f 0 126).bind fun t145 => (if t145 = true then ((accm_Apart.f 0 0).bind fun t146 => (some (!t146))) else (none))) else (none))))) = some r := by rw [if_pos rfl] at H; exact H
                clear H
                have H := H1
                clear H1
                replace H := Option.bind_eq_some_iff.mp H
                obtain ⟨t143, A140, H⟩ := H
                replace H : (if t143 = true then (none) else ((accm_Apart.f 0 125).bind fun t144 => (if t144 = true then ((accm_Apart.f 0 126).bind fun t145 => (if t145 = true then ((accm_Apart.f 0 0).bind fun t146 => (some (!t146))) else (none))) else (none)))) = some r := H
                have A14 := Aside0.mk A140
                clear A140
                by_cases c15 : t143 = true
                · subst c15
                  have H1 : (none) = some r := by rw [if_pos rfl] at H; exact H
                  clear H
                  have H := H1
                  clear H1
                  exact absurd H (by simp)
                · replace c15 := Bool.eq_false_iff.mpr c15
                  subst c15
                  have H1 : ((accm_Apart.f 0 125).bind fun t144 => (if t144 = true then ((accm_Apart.f 0 126).bind fun t145 => (if t145 = true then ((accm_Apart.f 0 0).bind fun t146 => (some (!t146))) else (none))) else (none))) = some r := by rw [if_neg (show ¬ (false = true) by decide)] at H; exact H
                  clear H
                  have H := H1
                  clear H1
                  replace H := Option.bind_eq_some_iff.mp H
                  obtain ⟨t144, A160, H⟩ := H
                  replace H : (if t144 = true then ((accm_Apart.f 0 126).bind fun t145 => (if t145 = true then ((accm_Apart.f 0 0).bind fun t146 => (some (!t146))) else (none))) else (none)) = some r := H
                  have A16 := Aside0.mk A160
                  clear A160
                  by_cases c17 : t144 = true
                  · subst c17
                    have H1 : ((accm_Apart.f 0 126).bind fun t145 => (if t145 = true then ((accm_Apart.f 0 0).bind fun t146 => (some (!t146))) else (none))) = some r := by rw [if_pos rfl] at H; exact H
                    clear H
                    have H := H1
                    clear H1
                    replace H := Option.bind_eq_some_iff.mp H
                    obtain ⟨t145, A180, H⟩ := H
                    replace H : (if t145 = true then ((accm_Apart.f 0 0).bind fun t146 => (some (!t146))) else (none)) = some r := H
                    have A18 := Aside0.mk A180
                    clear A180
                    by_cases c19 : t145 = true
                    · subst c19
                      have H1 : ((accm_Apart.f 0 0).bind fun t146 => (some (!t146))) = some r := by rw [if_pos rfl] at H; exact H
                      clear H
                      have H := H1
                      clear H1
                      replace H := Option.bind_eq_some_iff.mp H
                      obtain ⟨t146, A200, H⟩ := H
                      replace H : (some (!t146)) = some r := H
                      have A20 := Aside0.mk A200
                      clear A200
                      obtain rfl := Option.some.inj H
                      go_enter Try.func14, Try.ntmps14
                      go_wp2_with (first | ((with_reducible refine gate_dst (N := 6) rfl ?_); refine Kd.R_lit (Kd.int .u8) _ 5 ?hg (N := 6) ?hd (xs := ([0, 10, 0, 0] : List Int)) (inner := [.int .u8 0, .int .u8 10, .int .u8 0, .int .u8 0]) (ok := fun _ => True) (okp := fun _ => True) ?hr ?hp (fun _ hk => hk) trivial (Below.refl _ _) (Nat.le_refl _) (by simp) ?_; (case hd => rfl); (case hg => rfl); (case hr => first | (go_simp; done) | (go_simp; rfl)); (case hp => exact (Reps.one (show Kd.M (Kd.int .u8) _ _ _ 0 [.int .u8 0] from rfl) (Reps.one (show Kd.M (Kd.int .u8) _ _ _ 10 [.int .u8 10] from rfl) (Reps.one (show Kd.M (Kd.int .u8) _ _ _ 0 [.int .u8 0] from rfl) (Reps.one (show Kd.M (Kd.int .u8) _ _ _ 0 [.int .u8 0] from rfl) (Reps.none _ _)))))); intro v126 w21 ho22 hb hg_ hnew_; clear hg_ hnew_; (first | rw [← Ny125.out] at ho22 | (simp only [Int.reduceToNat] at ho22; rw [← Ny125.out] at ho22)); have n0_ := Aside0.mk (Kd.R_lower ho22 (below_size (by repeat (first | (with_reducible first | exact HB.out | apply below_alloc | apply pw_below_drewN | apply below_drew1) | exact HB.out)))); have n1_ := Aside0.mk (below_step (by repeat (first | (with_reducible first | exact HB.out | apply below_alloc | apply pw_below_drewN | apply below_drew1) | exact HB.out)) hb); clear HB; have HO127 := n0_; have HB := n1_; clear n0_ n1_; clear hb ho22; obtain ⟨Ao23, co23, eo23⟩ := Kd.R_slice HO127.out; subst eo23) | ((with_reducible refine gate_callee (f := 23) rfl ?_); refine goesL_ (some 7) rfl rfl Try.func23 (by kernel_rfl) rfl #[.slice Ao23 y125.length co23] rfl (by (try simp only [List.map_toArray, List.map_cons, List.map_nil]); first | done | rfl | (simp only [List.length_drop, List.length_take]; rfl)) ?_; (with_reducible refine (accm_Get.calls k _ _ y125 t128 true _ ?side1 ?side2 A1.out).mono ?_); (case side1 => repeat (first | exact (Kd.R_reads' HO127.out).2.2 | (with_reducible refine Kd.C_alloc ?_ _) | (with_reducible refine Kd.C_drewN ?_ _) | (with_reducible refine Kd.C_drew ?_))); (case side2 => exact (Kd.R_reads' HO127.out).2.1); rintro e w' ⟨rfl, ⟨nd, rfl⟩⟩; refine ⟨_, rfl, ?_⟩) | ((with_reducible refine gate_callee (f := 23) rfl ?_); refine goesL_ (some 11) rfl rfl Try.func23 (by kernel_rfl) rfl #[.slice none 0 0] rfl (by (try simp only [List.map_toArray, List.map_cons, List.map_nil]); first | done | rfl | (simp only [List.length_drop, List.length_take]; rfl)) ?_; (refine (accm_Get.calls k _ _ ([] : List Int) t130 false _ ?side1 ?side2 A2.out).mono ?_); (case side1 => exact Kd.C_nil _ _); (case side2 => exact Nat.le_refl _); rintro e w' ⟨rfl, ⟨nd, rfl⟩⟩; refine ⟨_, rfl, ?_⟩) | ((with_reducible refine gate_dst (N := 14) rfl ?_); refine Kd.R_lit (Kd.int .u8) _ 5 ?hg (N := 14) ?hd (xs := ([17, 19, 200] : List Int)) (inner := [.int .u8 17, .int .u8 19, .int .u8 200]) (ok := fun _ => True) (okp := fun _ => True) ?hr ?hp (fun _ hk => hk) trivial (Below.refl _ _) (Nat.le_refl _) (by simp) ?_; (case hd => rfl); (case hg => rfl); (case hr => first | (go_simp; done) | (go_simp; rfl)); (case hp => exact (Reps.one (show Kd.M (Kd.int .u8) _ _ _ 17 [.int .u8 17] from rfl) (Reps.one (show Kd.M (Kd.int .u8) _ _ _ 19 [.int .u8 19] from rfl) (Reps.one (show Kd.M (Kd.int .u8) _ _ _ 200 [.int .u8 200] from rfl) (Reps.none _ _))))); intro v133 w24 ho25 hb hg_ hnew_; clear hg_ hnew_; (first | rw [← Ny132.out] at ho25 | (simp only [Int.reduceToNat] at ho25; rw [← Ny132.out] at ho25)); have n0_ := Aside0.mk (Kd.R_elder' (by (with_reducible repeat (first | apply Kd.R_alloc | apply Kd.R_drewN | apply Kd.R_drew)); exact HO127.out) (Kd.R_base ho25) hb); have n1_ := Aside0.mk (Kd.R_lower (Kd.R_new' ho25 (Kd.R_lt (by (with_reducible repeat (first | apply Kd.R_alloc | apply Kd.R_drewN | apply Kd.R_drew)); exact HO127.out))) (below_size (by repeat (first | (with_reducible first | exact HB.out | apply below_alloc | apply pw_below_drewN | apply below_drew1) | exact HB.out)))); have n2_ := Aside0.mk (below_step (by repeat (first | (with_reducible first | exact HB.out | apply below_alloc | apply pw_below_drewN | apply below_drew1) | exact HB.out)) hb); clear HO127; clear HB; have HO127 := n0_; have HO134 := n1_; have HB := n2_; clear n0_ n1_ n2_; clear hb ho25; obtain ⟨Ao26, co26, eo26⟩ := Kd.R_slice HO134.out; subst eo26) | ((with_reducible refine gate_callee (f := 19) rfl ?_); refine goesL_ (some 15) rfl rfl Try.func19 (by kernel_rfl) rfl #[.int .u32 0, .slice Ao26 y132.length co26] rfl (by (try simp only [List.map_toArray, List.map_cons, List.map_nil]); first | done | rfl | (simp only [List.length_drop, List.length_take]; rfl)) ?_; (with_reducible refine (accm_With.calls k 0 _ _ y132 t135 _ ?side1 ?side2 A3.out).mono ?_); (case side1 => repeat (first | exact (Kd.R_reads' HO134.out).2.2 | (with_reducible refine Kd.C_alloc ?_ _) | (with_reducible refine Kd.C_drewN ?_ _) | (with_reducible refine Kd.C_drew ?_))); (case side2 => exact (Kd.R_reads' HO134.out).2.1); rintro e w' ⟨rfl, ⟨nd, rfl⟩⟩; refine ⟨_, rfl, ?_⟩) | (go_at_call 21; (with_reducible refine (accm_List.calls k 655360 t136 _ A5.out).mono ?_); rintro e w27 ⟨v137, rfl, ho0, hb⟩; have n0_ := Aside0.mk (Kd.R_elder' (by (with_reducible repeat (first | apply Kd.R_alloc | apply Kd.R_drewN | apply Kd.R_drew)); exact HO127.out) (Kd.R_base ho0) hb); have n1_ := Aside0.mk (Kd.R_elder' (by (with_reducible repeat (first | apply Kd.R_alloc | apply Kd.R_drewN | apply Kd.R_drew)); exact HO134.out) (Kd.R_base ho0) hb); have n2_ := Aside0.mk (Kd.R_lower (Kd.R_new' (Kd.R_new' ho0 (Kd.R_lt (by (with_reducible repeat (first | apply Kd.R_alloc | apply Kd.R_drewN | apply Kd.R_drew)); exact HO127.out))) (Kd.R_lt (by (with_reducible repeat (first | apply Kd.R_alloc | apply Kd.R_drewN | apply Kd.R_drew)); exact HO134.out))) (below_size (by repeat (first | (with_reducible first | exact HB.out | apply below_alloc | apply pw_below_drewN | apply below_drew1) | exact HB.out)))); have n3_ := Aside0.mk (below_step (by repeat (first | (with_reducible first | exact HB.out | apply below_alloc | apply pw_below_drewN | apply below_drew1) | exact HB.out)) hb); clear HO127; clear HO134; clear HB; have HO127 := n0_; have HO134 := n1_; have HO138 := n2_; have HB := n3_; clear n0_ n1_ n2_ n3_; (try clear hb); (try clear hb2); (try clear hk); (try clear hi); (try clear ho0); have hcv28 := own_string (P := Try.prog) Try.underlying25 Try.underlying5 Try.underlying9 (Kd.own_of_R HO138.out)) | (go_at_call 25; (with_reducible refine (accm_Put.calls k t128 t139 _ A10.out).mono ?_); rintro e w29 ⟨v140, rfl, ho0, hb⟩; have n0_ := Aside0.mk (Kd.R_elder' (by (with_reducible repeat (first | apply Kd.R_alloc | apply Kd.R_drewN | apply Kd.R_drew)); exact HO127.out) (Kd.R_base ho0) hb); have n1_ := Aside0.mk (Kd.R_elder' (by (with_reducible repeat (first | apply Kd.R_alloc | apply Kd.R_drewN | apply Kd.R_drew)); exact HO134.out) (Kd.R_base ho0) hb); have n2_ := Aside0.mk (Kd.R_elder' (by (with_reducible repeat (first | apply Kd.R_alloc | apply Kd.R_drewN | apply Kd.R_drew)); exact HO138.out) (Kd.R_base ho0) hb); have n3_ := Aside0.mk (Kd.R_lower (Kd.R_new' (Kd.R_new' (Kd.R_new' ho0 (Kd.R_lt (by (with_reducible repeat (first | apply Kd.R_alloc | apply Kd.R_drewN | apply Kd.R_drew)); exact HO127.out))) (Kd.R_lt (by (with_reducible repeat (first | apply Kd.R_alloc | apply Kd.R_drewN | apply Kd.R_drew)); exact HO134.out))) (Kd.R_lt (by (with_reducible repeat (first | apply Kd.R_alloc | apply Kd.R_drewN | apply Kd.R_drew)); exact HO138.out))) (below_size (by repeat (first | (with_reducible first | exact HB.out | apply below_alloc | apply pw_below_drewN | apply below_drew1) | exact HB.out)))); have n4_ := Aside0.mk (below_step (by repeat (first | (with_reducible first | exact HB.out | apply below_alloc | apply pw_below_drewN | apply below_drew1) | exact HB.out)) hb); clear HO127; clear HO134; clear HO138; clear HB; have HO127 := n0_; have HO134 := n1_; have HO138 := n2_; have HO141 := n3_; have HB := n4_; clear n0_ n1_ n2_ n3_ n4_; (try clear hb); (try clear hb2); (try clear hk); (try clear hi); (try clear ho0); have hcv30 := own_string (P := Try.prog) Try.underlying25 Try.underlying5 Try.underlying9 (Kd.own_of_R HO141.out)) | (go_at_call 15; (with_reducible refine (accm_Has.calls 1 0 true _ A12.out).mono ?_); rintro e w' ⟨rfl, ⟨nd, rfl⟩⟩) | (go_at_call 15; (with_reducible refine (accm_Has.calls 1 32 false _ A14.out).mono ?_); rintro e w' ⟨rfl, ⟨nd, rfl⟩⟩) | (go_at_call 17; (with_reducible refine (accm_Apart.calls 0 125 true _ A16.out).mono ?_); rintro e w' ⟨rfl, ⟨nd, rfl⟩⟩) | (go_at_call 17; (with_reducible refine (accm_Apart.calls 0 126 true _ A18.out).mono ?_); rintro e w' ⟨rfl, ⟨nd, rfl⟩⟩) | (go_at_call 17; (with_reducible refine (accm_Apart.calls 0 0 t146 _ A20.out).mono ?_); rintro e w' ⟨rfl, ⟨nd, rfl⟩⟩))
                      go_ret
                      exact ⟨by first | rfl | (simp [errW_none, errW_some] <;> rfl) | (simp [*, errW_none, errW_some] <;> rfl), by repeat (first | (with_reducible first | exact HB.out | apply below_alloc | apply pw_below_drewN | apply below_drew1) | exact HB.out)⟩
                    · replace c19 := Bool.eq_false_iff.mpr c19
                      subst c19
                      have H1 : (none) = some r := by rw [if_neg (show ¬ (false = true) by decide)] at H; exact H
                      clear H
                      have H := H1
                      clear H1
                      exact absurd H (by simp)
                  · replace c17 := Bool.eq_false_iff.mpr c17
                    subst c17
                    have H1 : (none) = some r := by rw [if_neg (show ¬ (false = true) by decide)] at H; exact H
                    clear H
                    have H := H1
                    clear H1
                    exact absurd H (by simp)
              · replace c13 := Bool.eq_false_iff.mpr c13
                subst c13
                have H1 : (none) = some r := by rw [if_neg (show ¬ (false = true) by decide)] at H; exact H
                clear H
                have H := H1
                clear H1
                exact absurd H (by simp)
            · rw [if_neg c11] at H
              exact absurd H (by simp)
        · rw [if_neg c8] at H
          exact absurd H (by simp)
      · replace c7 := Bool.eq_false_iff.mpr c7
        subst c7
        have H1 : (none) = some r := by rw [if_neg (show ¬ (false = true) by decide)] at H; exact H
        clear H
        have H := H1
        clear H1
        exact absurd H (by simp)
    · rw [if_neg c6] at H
      exact absurd H (by simp)
  · rw [if_neg c4] at H
    exact absurd H (by simp)

end Go.Proofs.Ytnnehekodoakeaa.Print
