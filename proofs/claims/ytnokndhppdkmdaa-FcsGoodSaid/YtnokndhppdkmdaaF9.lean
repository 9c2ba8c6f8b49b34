-- laid by this session's own program (wip/mkprint.sh) for this claim
import Derived.Test.Ytnokndhppdkmdaa0
import Derived.Test.YtnokndhppdkmdaaF10
import Derived.Test.YtnokndhppdkmdaaF12
import Derived.Test.YtnokndhppdkmdaaF14
import Derived.Test.YtnokndhppdkmdaaF16
import Derived.Test.YtnokndhppdkmdaaF18
import Derived.Test.YtnokndhppdkmdaaF19
namespace Go.Proofs.Ytnokndhppdkmdaa.Print
open Go.RowKit Go.Proofs.YtnokndhppdkmdaaW.PrintWords Go.Proofs.YtnokndhppdkmdaaW.PrintLast Go.Proofs.YtnokndhppdkmdaaW.PrintMore
attribute [local go_sem] max2_int min2_int max_two min_two max_three min_three max_four min_four   -- for this text's walks alone
set_option linter.unusedVariables false
set_option linter.unusedSimpArgs false

/-! ### umpirelaw04_awake: function 9 -/
def umpirelaw04_awake.f (k : Nat)  : Option (Bool) := (some (([49, 50, 51, 52, 53, 54, 55, 56, 57] : List Int) : List Int)).bind fun y124 => ((fcs_Seal.f k y124 false).bind fun t127 => ((fcs_Open.f t127 false).bind fun bt130 => ((fcs_Of.f y124 false).bind fun t134 => (if t134 = 36974 then ((fcs_Of.f y124 true).bind fun t135 => (if t135 = 3421780262 then (if (strOfNums t127).toList = ([49, 50, 51, 52, 53, 54, 55, 56, 57, 110, 144] : List UInt8) then (if bt130.2 = true then (if (strOfNums bt130.1).toList = (strOfNums y124).toList then ((fcs_Good.f t127 false).bind fun t136 => (if t136 = true then ((fcs_Good.f t127 true).bind fun t137 => (if t137 = true then (none) else ((fcs_Good.f ([] : List Int) false).bind fun t138 => (if t138 = true then (none) else ((fcs_Size.f true).bind fun t139 => (if t139 = 4 then ((fcs_More.f 65535 y124 false).bind fun t140 => (some (t140 == 28561))) else (none))))))) else (none))) else (none)) else (none)) else (none)) else (none))) else (none)))))
theorem umpirelaw04_awake.mono : ∀ k, LeO (umpirelaw04_awake.f k ) (umpirelaw04_awake.f (k + 1) ) := by
  intro  k
  unfold umpirelaw04_awake.f
  repeat' first
      | (with_reducible exact fcs_Seal.mono _ _ _)
      | (with_reducible exact LeO.refl _)
      | (with_reducible exact LeO.none _)
      | (with_reducible refine LeO.ite ?_ ?_)
      | (with_reducible refine LeO.bind ?_ (fun _ => ?_))
      | exact fcs_Seal.mono _ _ _
      | exact LeO.none _
      | refine LeO.ite ?_ ?_
      | refine LeO.bind ?_ (fun _ => ?_)
set_option maxHeartbeats 8000000 in
set_option maxRecDepth 100000 in
theorem umpirelaw04_awake.calls (k : Nat)  (r : Bool) (w : World) (h : umpirelaw04_awake.f k  = some r) :
    Calls Try.prog 9 #[] w fun e w' => e = .returned (.bool r) ∧ Below w.heap.size w w' := by
  have HB := Aside0.mk (Below.refl w.heap.size w)
  have H : ((some (([49, 50, 51, 52, 53, 54, 55, 56, 57] : List Int) : List Int)).bind fun y124 => ((fcs_Seal.f k y124 false).bind fun t127 => ((fcs_Open.f t127 false).bind fun bt130 => ((fcs_Of.f y124 false).bind fun t134 => (if t134 = 36974 then ((fcs_Of.f y124 true).bind fun t135 => (if t135 = 3421780262 then (if (strOfNums t127).toList = ([49, 50, 51, 52, 53, 54, 55, 56, 57, 110, 144] : List UInt8) then (if bt130.2 = true then (if (strOfNums bt130.1).toList = (strOfNums y124).toList then ((fcs_Good.f t127 false).bind fun t136 => (if t136 = true then ((fcs_Good.f t127 true).bind fun t137 => (if t137 = true then (none) else ((fcs_Good.f ([] : List Int) false).bind fun t138 => (if t138 = true then (none) else ((fcs_Size.f true).bind fun t139 => (if t139 = 4 then ((fcs_More.f 65535 y124 false).bind fun t140 => (some (t140 == 28561))) else (none))))))) else (none))) else (none)) else (none)) else (none)) else (none))) else (none)))))) = some r := h
  clear h
  obtain ⟨y124, hy124⟩ : ∃ y_ : List Int, y_ = (([49, 50, 51, 52, 53, 54, 55, 56, 57] : List Int)) := ⟨_, rfl⟩
  replace H : ((fcs_Seal.f k y124 false).bind fun t127 => ((fcs_Open.f t127 false).bind fun bt130 => ((fcs_Of.f y124 false).bind fun t134 => (if t134 = 36974 then ((fcs_Of.f y124 true).bind fun t135 => (if t135 = 3421780262 then (if (strOfNums t127).toList = ([49, 50, 51, 52, 53, 54, 55, 56, 57, 110, 144] : List UInt8) then (if bt130.2 = true then (if (strOfNums bt130.1).toList = (strOfNums y124).toList then ((fcs_Good.f t127 false).bind fun t136 => (if t136 = true then ((fcs_Good.f t127 true).bind fun t137 => (if t137 = true then (none) else ((fcs_Good.f ([] : List Int) false).bind fun t138 => (if t138 = true then (none) else ((fcs_Size.f true).bind fun t139 => (if t139 = 4 then ((fcs_More.f 65535 y124 false).bind fun t140 => (some (t140 == 28561))) else (none))))))) else (none))) else (none)) else (none)) else (none)) else (none))) else (none))))) = some r := by first | (rw [hy124]; with_reducible exact H) | (have H2_ := (Option.bind_some _ _).symm.trans H; rw [hy124]; with_reducible exact H2_) | (have H2_ := (Option.bind_some _ _).symm.trans H; with_reducible exact H2_) | with_reducible exact H | (rw [hy124]; exact H) | exact H
  have Ny124 := Aside0.mk hy124
  clear hy124
  replace H := Option.bind_eq_some_iff.mp H
  obtain ⟨t127, A10, H⟩ := H
  replace H : ((fcs_Open.f t127 false).bind fun bt130 => ((fcs_Of.f y124 false).bind fun t134 => (if t134 = 36974 then ((fcs_Of.f y124 true).bind fun t135 => (if t135 = 3421780262 then (if (strOfNums t127).toList = ([49, 50, 51, 52, 53, 54, 55, 56, 57, 110, 144] : List UInt8) then (if bt130.2 = true then (if (strOfNums bt130.1).toList = (strOfNums y124).toList then ((fcs_Good.f t127 false).bind fun t136 => (if t136 = true then ((fcs_Good.f t127 true).bind fun t137 => (if t137 = true then (none) else ((fcs_Good.f ([] : List Int) false).bind fun t138 => (if t138 = true then (none) else ((fcs_Size.f true).bind fun t139 => (if t139 = 4 then ((fcs_More.f 65535 y124 false).bind fun t140 => (some (t140 == 28561))) else (none))))))) else (none))) else (none)) else (none)) else (none)) else (none))) else (none)))) = some r := H
  have A1 := Aside0.mk A10
  clear A10
  replace H := Option.bind_eq_some_iff.mp H
  obtain ⟨⟨t130, t131⟩, A20, H⟩ := H
  replace H : ((fcs_Of.f y124 false).bind fun t134 => (if t134 = 36974 then ((fcs_Of.f y124 true).bind fun t135 => (if t135 = 3421780262 then (if (strOfNums t127).toList = ([49, 50, 51, 52, 53, 54, 55, 56, 57, 110, 144] : List UInt8) then (if t131 = true then (if (strOfNums t130).toList = (strOfNums y124).toList then ((fcs_Good.f t127 false).bind fun t136 => (if t136 = true then ((fcs_Good.f t127 true).bind fun t137 => (if t137 = true then (none) else ((fcs_Good.f ([] : List Int) false).bind fun t138 => (if t138 = true then (none) else ((fcs_Size.f true).bind fun t139 => (if t139 = 4 then ((fcs_More.f 65535 y124 false).bind fun t140 => (some (t140 == 28561))) else (none))))))) else (none))) else (none)) else (none)) else (none)) else (none))) else (none))) = some r := H
  have A2 := Aside0.mk A20
  clear A20
  replace H := Option.bind_eq_some_iff.mp H
  obtain ⟨t134, A30, H⟩ := H
  replace H : (if t134 = 36974 then ((fcs_Of.f y124 true).bind fun t135 => (if t135 = 3421780262 then (if (strOfNums t127).toList = ([49, 50, 51, 52, 53, 54, 55, 56, 57, 110, 144] : List UInt8) then (if t131 = true then (if (strOfNums t130).toList = (strOfNums y124).toList then ((fcs_Good.f t127 false).bind fun t136 => (if t136 = true then ((fcs_Good.f t127 true).bind fun t137 => (if t137 = true then (none) else ((fcs_Good.f ([] : List Int) false).bind fun t138 => (if t138 = true then (none) else ((fcs_Size.f true).bind fun t139 => (if t139 = 4 then ((fcs_More.f 65535 y124 false).bind fun t140 => (some (t140 == 28561))) else (none))))))) else (none))) else (none)) else (none)) else (none)) else (none))) else (none)) = some r := H
  have A3 := Aside0.mk A30
  clear A30
  by_cases c4 : t134 = 36974
  · rw [if_pos c4] at H
    have c4b0 : (t134 == 36974) = true := beq_iff_eq.mpr c4
    have c4b1 : (t134 != 36974) = false := bne_eq_false_iff_eq.mpr c4
    clear c4
    replace H := Option.bind_eq_some_iff.mp H
    obtain ⟨t135, A50, H⟩ := H
    replace H : (if t135 = 3421780262 then (if (strOfNums t127).toList = ([49, 50, 51, 52, 53, 54, 55, 56, 57, 110, 144] : List UInt8) then (if t131 = true then (if (strOfNums t130).toList = (strOfNums y124).toList then ((fcs_Good.f t127 false).bind fun t136 => (if t136 = true then ((fcs_Good.f t127 true).bind fun t137 => (if t137 = true then (none) else ((fcs_Good.f ([] : List Int) false).bind fun t138 => (if t138 = true then (none) else ((fcs_Size.f true).bind fun t139 => (if t139 = 4 then ((fcs_More.f 65535 y124 false).bind fun t140 => (some (t140 == 28561))) else (none))))))) else (none))) else (none)) else (none)) else (none)) else (none)) = some r := H
    have A5 := Aside0.mk A50
    clear A50
    by_cases c6 : t135 = 3421780262
    · rw [if_pos c6] at H
      have c6b0 : (t135 == 3421780262) = true := beq_iff_eq.mpr c6
      have c6b1 : (t135 != 3421780262) = false := bne_eq_false_iff_eq.mpr c6
      clear c6
      by_cases c7 : (strOfNums t127).toList = ([49, 50, 51, 52, 53, 54, 55, 56, 57, 110, 144] : List UInt8)
      · rw [if_pos c7] at H
        have c7b0 : ((strOfNums t127).toList == ([49, 50, 51, 52, 53, 54, 55, 56, 57, 110, 144] : List UInt8)) = true := beq_iff_eq.mpr c7
        have c7b1 : ((strOfNums t127).toList != ([49, 50, 51, 52, 53, 54, 55, 56, 57, 110, 144] : List UInt8)) = false := bne_eq_false_iff_eq.mpr c7
        clear c7
        by_cases c8 : t131 = true
        · subst c8
          have H1 : (if (strOfNums t130).toList = (strOfNums y124).toList then ((fcs_Good.f t127 false).bind fun t136 => (if t136 = true then ((fcs_Good.f t127 true).bind fun t137 => (if t137 = true then (none) else ((fcs_Good.f ([] : List Int) false).bind fun t138 => (if t138 = true then (none) else ((fcs_Size.f true).bind fun t139 => (if t139 = 4 then ((fcs_More.f 65535 y124 false).bind fun t140 => (some (t140 == 28561))) else (none))))))) else (none))) else (none)) = some r := by rw [if_pos rfl] at H; exact H
          clear H
          have H := H1
          clear H1
          by_cases c9 : (strOfNums t130).toList = (strOfNums y124).toList
          · rw [if_pos c9] at H
            have c9b0 : ((strOfNums t130).toList == (strOfNums y124).toList) = true := beq_iff_eq.mpr c9
            have c9b1 : ((strOfNums t130).toList != (strOfNums y124).toList) = false := bne_eq_false_iff_eq.mpr c9
            clear c9
            replace H := Option.bind_eq_some_iff.mp H
            obtain ⟨t136, A100, H⟩ := H
            replace H : (if t136 = true then ((fcs_Good.f t127 true).bind fun t137 => (if t137 = true then (none) else ((fcs_Good.f ([] : List Int) false).bind fun t138 => (if t138 = true then (none) else ((fcs_Size.f true).bind fun t139 => (if t139 = 4 then ((fcs_More.f 65535 y124 false).bind fun t140 => (some (t140 == 28561))) else (none))))))) else (none)) = some r := H
            have A10 := Aside0.mk A100
            clear A100
            by_cases c11 : t136 = true
            · subst c11
              have H1 : ((fcs_Good.f t127 true).bind fun t137 => (if t137 = true then (none) else ((fcs_Good.f ([] : List Int) false).bind fun t138 => (if t138 = true then (none) else ((fcs_Size.f true).bind fun t139 => (if t139 = 4 then ((fcs_More.f 65535 y124 false).bind fun t140 => (some (t140 == 28561))) else (none))))))) = some r := by rw [if_pos rfl] at H; exact H
              clear H
              have H := H1
              clear H1
              replace H := Option.bind_eq_some_iff.mp H
              obtain ⟨t137, A120, H⟩ := H
              replace H : (if t137 = true then (none) else ((fcs_Good.f ([] : List Int) false).bind fun t138 => (if t138 = true then (none) else ((fcs_Size.f true).bind fun t139 => (if t139 = 4 then ((fcs_More.f 65535 y124 false).bind fun t140 => (some (t140 == 28561))) else (none)))))) = some r := H
              have A12 := Aside0.mk A120
              clear A120
              by_cases c13 : t137 = true
              · subst c13
                have H1 : (none) = some r := by rw [if_pos rfl] at H; exact H
                clear H
                have H := H1
                clear H1
                exact absurd H (by simp)
              · replace c13 := Bool.eq_false_iff.mpr c13
                subst c13
                have H1 : ((fcs_Good.f ([] : List Int) false).bind fun t138 => (if t138 = true then (none) else ((fcs_Size.f true).bind fun t139 => (if t139 = 4 then ((fcs_More.f 65535 y124 false).bind fun t140 => (some (t140 == 28561))) else (none))))) = some r := by rw [if_neg (show ¬ (false = true) by decide)] at H; exact H
                clear H
                have H := H1
                clear H1
                replace H := Option.bind_eq_some_iff.mp H
                obtain ⟨t138, A140, H⟩ := H
                replace H : (if t138 = true then (none) else ((fcs_Size.f true).bind fun t139 => (if t139 = 4 then ((fcs_More.f 65535 y124 false).bind fun t140 => (some (t140 == 28561))) else (none)))) = some r := H
                have A14 := Aside0.mk A140
                clear A140
                by_cases c15 : t138 = true
                · subst c15
                  have H1 : (none) = some r := by rw [if_pos rfl] at H; exact H
                  clear H
                  have H := H1
                  clear H1
                  exact absurd H (by simp)
                · replace c15 := Bool.eq_false_iff.mpr c15
                  subst c15
                  have H1 : ((fcs_Size.f true).bind fun t139 => (if t139 = 4 then ((fcs_More.f 65535 y124 false).bind fun t140 => (some (t140 == 28561))) else (none))) = some r := by rw [if_neg (show ¬ (false = true) by decide)] at H; exact H
                  clear H
                  have H := H1
                  clear H1
                  replace H := Option.bind_eq_some_iff.mp H
                  obtain ⟨t139, A160, H⟩ := H
                  replace H : (if t139 = 4 then ((fcs_More.f 65535 y124 false).bind fun t140 => (some (t140 == 28561))) else (none)) = some r := H
                  have A16 := Aside0.mk A160
                  clear A160
                  by_cases c17 : t139 = 4
                  · rw [if_pos c17] at H
                    have c17b0 : (t139 == 4) = true := beq_iff_eq.mpr c17
                    have c17b1 : (t139 != 4) = false := bne_eq_false_iff_eq.mpr c17
                    clear c17
                    replace H := Option.bind_eq_some_iff.mp H
                    obtain ⟨t140, A180, H⟩ := H
                    replace H : (some (t140 == 28561)) = some r := H
                    have A18 := Aside0.mk A180
                    clear A180
                    obtain rfl := Option.some.inj H
                    go_enter Try.func9, Try.ntmps9
                    go_wp2_with (first | ((with_reducible refine gate_dst (N := 5) rfl ?_); refine V_litc w.heap.size 5 ?hg (N := 5) ?hd (xs := ([49, 50, 51, 52, 53, 54, 55, 56, 57] : List Int)) (inner := [.int .u8 49, .int .u8 50, .int .u8 51, .int .u8 52, .int .u8 53, .int .u8 54, .int .u8 55, .int .u8 56, .int .u8 57]) ?hr ?hw rfl rfl Try.underlying23 Try.underlying5 rfl (by simp) ?_; (case hd => rfl); (case hg => rfl); (case hr => first | (go_simp; done) | (go_simp; rfl)); (case hw => rfl); intro v125 w19 ho20 hb; (first | rw [← Ny124.out] at ho20 | (simp only [Int.reduceToNat] at ho20; rw [← Ny124.out] at ho20)); have n0_ := Aside0.mk (below_step (by repeat (first | (with_reducible first | exact HB.out | apply below_alloc | apply pw_below_drewN | apply below_drew1) | exact HB.out)) hb); have n1_ := Aside0.mk (ho20); clear HB; have HB := n0_; have HO126 := n1_; clear n0_ n1_; clear hb ho20; obtain ⟨Ao21, co21, eo21⟩ := Kd.V_slice HO126.out; subst eo21) | ((with_reducible refine gate_callee (f := 19) rfl ?_); refine goesL_ (some 8) rfl rfl Try.func19 (by kernel_rfl) rfl #[.slice Ao21 y124.length co21, .bool false] rfl (by (try simp only [List.map_toArray, List.map_cons, List.map_nil]); first | done | rfl | (simp only [List.length_drop, List.length_take]; rfl)) ?_; (with_reducible refine (fcs_Seal.calls k _ _ y124 false t127 _ ?side1 ?side2 A1.out).mono ?_); (case side1 => repeat (first | exact (Kd.V_reads' HO126.out).2.2 | (with_reducible refine Kd.C_alloc ?_ _) | (with_reducible refine Kd.C_drewN ?_ _) | (with_reducible refine Kd.C_drew ?_))); (case side2 => exact (Kd.V_reads' HO126.out).2.1); rintro e w22 ⟨v128, rfl, ho0, hb⟩; refine ⟨_, rfl, ?_⟩; have n0_ := Aside0.mk (Kd.V_elder' (by (with_reducible repeat (first | apply Kd.V_alloc | apply Kd.V_drewN | apply Kd.V_drew)); exact HO126.out) (Kd.R_base ho0) hb); have n1_ := Aside0.mk (Kd.R_lower ho0 (below_size (by repeat (first | (with_reducible first | exact HB.out | apply below_alloc | apply pw_below_drewN | apply below_drew1) | exact HB.out)))); have n2_ := Aside0.mk (below_step (by repeat (first | (with_reducible first | exact HB.out | apply below_alloc | apply pw_below_drewN | apply below_drew1) | exact HB.out)) hb); clear HO126; clear HB; have HO126 := n0_; have HO129 := n1_; have HB := n2_; clear n0_ n1_ n2_; (try clear hb); (try clear hb2); (try clear hk); (try clear hi); (try clear ho0); obtain ⟨Ao23, co23, eo23⟩ := Kd.R_slice HO129.out; subst eo23) | ((with_reducible refine gate_callee (f := 16) rfl ?_); refine goesL_ (some 11) rfl rfl Try.func16 (by kernel_rfl) rfl #[.slice Ao23 t127.length co23, .bool false] rfl (by (try simp only [List.map_toArray, List.map_cons, List.map_nil]); first | done | rfl | (simp only [List.length_drop, List.length_take]; rfl)) ?_; (with_reducible refine (fcs_Open.calls _ _ t127 false t130 true _ ?side1 ?side2 A2.out).mono ?_); (case side1 => repeat (first | exact (Kd.R_reads' HO129.out).2.2 | (with_reducible refine Kd.C_alloc ?_ _) | (with_reducible refine Kd.C_drewN ?_ _) | (with_reducible refine Kd.C_drew ?_))); (case side2 => exact (Kd.R_reads' HO129.out).2.1); rintro e w24 ⟨v132, rfl, ho0, hb⟩; refine ⟨_, rfl, ?_⟩; have n0_ := Aside0.mk (Kd.V_elder' (by (with_reducible repeat (first | apply Kd.V_alloc | apply Kd.V_drewN | apply Kd.V_drew)); exact HO126.out) (Kd.R_base ho0) hb); have n1_ := Aside0.mk (Kd.R_elder' (by (with_reducible repeat (first | apply Kd.R_alloc | apply Kd.R_drewN | apply Kd.R_drew)); exact HO129.out) (Kd.R_base ho0) hb); have n2_ := Aside0.mk (Kd.R_lower (Kd.R_new' ho0 (Kd.R_lt (by (with_reducible repeat (first | apply Kd.R_alloc | apply Kd.R_drewN | apply Kd.R_drew)); exact HO129.out))) (below_size (by repeat (first | (with_reducible first | exact HB.out | apply below_alloc | apply pw_below_drewN | apply below_drew1) | exact HB.out)))); have n3_ := Aside0.mk (below_step (by repeat (first | (with_reducible first | exact HB.out | apply below_alloc | apply pw_below_drewN | apply below_drew1) | exact HB.out)) hb); clear HO126; clear HO129; clear HB; have HO126 := n0_; have HO129 := n1_; have HO133 := n2_; have HB := n3_; clear n0_ n1_ n2_ n3_; (try clear hb); (try clear hb2); (try clear hk); (try clear hi); (try clear ho0)) | ((with_reducible refine gate_callee (f := 12) rfl ?_); refine goesL_ (some 15) rfl rfl Try.func12 (by kernel_rfl) rfl #[.slice Ao21 y124.length co21, .bool false] rfl (by (try simp only [List.map_toArray, List.map_cons, List.map_nil]); first | done | rfl | (simp only [List.length_drop, List.length_take]; rfl)) ?_; (with_reducible refine (fcs_Of.calls _ _ y124 false t134 _ ?side1 ?side2 A3.out).mono ?_); (case side1 => repeat (first | exact (Kd.V_reads' HO126.out).2.2 | (with_reducible refine Kd.C_alloc ?_ _) | (with_reducible refine Kd.C_drewN ?_ _) | (with_reducible refine Kd.C_drew ?_))); (case side2 => exact (Kd.V_reads' HO126.out).2.1); rintro e w25 ⟨rfl, hb⟩; refine ⟨_, rfl, ?_⟩; have n0_ := Aside0.mk (Kd.V_below (by (with_reducible repeat (first | apply Kd.V_alloc | apply Kd.V_drewN | apply Kd.V_drew)); exact HO126.out) hb); have n1_ := Aside0.mk (Kd.R_below (by (with_reducible repeat (first | apply Kd.R_alloc | apply Kd.R_drewN | apply Kd.R_drew)); exact HO129.out) hb); have n2_ := Aside0.mk (Kd.R_below (by (with_reducible repeat (first | apply Kd.R_alloc | apply Kd.R_drewN | apply Kd.R_drew)); exact HO133.out) hb); have n3_ := Aside0.mk (below_step (by repeat (first | (with_reducible first | exact HB.out | apply below_alloc | apply pw_below_drewN | apply below_drew1) | exact HB.out)) hb); clear HO126; clear HO129; clear HO133; clear HB; have HO126 := n0_; have HO129 := n1_; have HO133 := n2_; have HB := n3_; clear n0_ n1_ n2_ n3_; (try clear hb); (try clear hb2); (try clear hk); (try clear hi)) | (go_at_call 12; (with_reducible refine (fcs_Of.calls _ _ y124 true t135 _ ?side1 ?side2 A5.out).mono ?_); (case side1 => repeat (first | exact (Kd.V_reads' HO126.out).2.2 | (with_reducible refine Kd.C_alloc ?_ _) | (with_reducible refine Kd.C_drewN ?_ _) | (with_reducible refine Kd.C_drew ?_))); (case side2 => exact (Kd.V_reads' HO126.out).2.1); rintro e w26 ⟨rfl, hb⟩; have n0_ := Aside0.mk (Kd.V_below (by (with_reducible repeat (first | apply Kd.V_alloc | apply Kd.V_drewN | apply Kd.V_drew)); exact HO126.out) hb); have n1_ := Aside0.mk (Kd.R_below (by (with_reducible repeat (first | apply Kd.R_alloc | apply Kd.R_drewN | apply Kd.R_drew)); exact HO129.out) hb); have n2_ := Aside0.mk (Kd.R_below (by (with_reducible repeat (first | apply Kd.R_alloc | apply Kd.R_drewN | apply Kd.R_drew)); exact HO133.out) hb); have n3_ := Aside0.mk (below_step (by repeat (first | (with_reducible first | exact HB.out | apply below_alloc | apply pw_below_drewN | apply below_drew1) | exact HB.out)) hb); clear HO126; clear HO129; clear HO133; clear HB; have HO126 := n0_; have HO129 := n1_; have HO133 := n2_; have HB := n3_; clear n0_ n1_ n2_ n3_; (try clear hb); (try clear hb2); (try clear hk); (try clear hi); have hcv27 := fun m_ : Nat => own_string (P := Try.prog) Try.underlying23 Try.underlying5 Try.underlying9 (Kd.own_of_R (Kd.R_drewN HO129.out m_)); have hcv28 := own_string (P := Try.prog) Try.underlying23 Try.underlying5 Try.underlying9 (Kd.own_of_R HO129.out); have hcv29 := fun m_ : Nat => own_string (P := Try.prog) Try.underlying23 Try.underlying5 Try.underlying9 (Kd.own_of_R (Kd.R_drewN HO133.out m_)); have hcv30 := own_string (P := Try.prog) Try.underlying23 Try.underlying5 Try.underlying9 (Kd.own_of_R HO133.out); have hcv31 := fun m_ : Nat => Kd.C_string (P := Try.prog) (A := Ao21) (c := co21) Try.underlying23 Try.underlying5 Try.underlying9 (Kd.C_drewN (Kd.V_reads' HO126.out).2.2 m_); have hcv32 := Kd.C_string (P := Try.prog) (A := Ao21) (c := co21) Try.underlying23 Try.underlying5 Try.underlying9 (Kd.V_reads' HO126.out).2.2) | (go_at_call 18; (with_reducible refine (fcs_Good.calls _ _ t127 false true _ ?side1 ?side2 A10.out).mono ?_); (case side1 => repeat (first | exact (Kd.R_reads' HO129.out).2.2 | (with_reducible refine Kd.C_alloc ?_ _) | (with_reducible refine Kd.C_drewN ?_ _) | (with_reducible refine Kd.C_drew ?_))); (case side2 => exact (Kd.R_reads' HO129.out).2.1); rintro e w33 ⟨rfl, hb⟩; have n0_ := Aside0.mk (Kd.V_below (by (with_reducible repeat (first | apply Kd.V_alloc | apply Kd.V_drewN | apply Kd.V_drew)); exact HO126.out) hb); have n1_ := Aside0.mk (Kd.R_below (by (with_reducible repeat (first | apply Kd.R_alloc | apply Kd.R_drewN | apply Kd.R_drew)); exact HO129.out) hb); have n2_ := Aside0.mk (Kd.R_below (by (with_reducible repeat (first | apply Kd.R_alloc | apply Kd.R_drewN | apply Kd.R_drew)); exact HO133.out) hb); have n3_ := Aside0.mk (below_step (by repeat (first | (with_reducible first | exact HB.out | apply below_alloc | apply pw_below_drewN | apply below_drew1) | exact HB.out)) hb); clear HO126; clear HO129; clear HO133; clear HB; have HO126 := n0_; have HO129 := n1_; have HO133 := n2_; have HB := n3_; clear n0_ n1_ n2_ n3_; (try clear hb); (try clear hb2); (try clear hk); (try clear hi)) | (go_at_call 18; (with_reducible refine (fcs_Good.calls _ _ t127 true false _ ?side1 ?side2 A12.out).mono ?_); (case side1 => repeat (first | exact (Kd.R_reads' HO129.out).2.2 | (with_reducible refine Kd.C_alloc ?_ _) | (with_reducible refine Kd.C_drewN ?_ _) | (with_reducible refine Kd.C_drew ?_))); (case side2 => exact (Kd.R_reads' HO129.out).2.1); rintro e w34 ⟨rfl, hb⟩; have n0_ := Aside0.mk (Kd.V_below (by (with_reducible repeat (first | apply Kd.V_alloc | apply Kd.V_drewN | apply Kd.V_drew)); exact HO126.out) hb); have n1_ := Aside0.mk (Kd.R_below (by (with_reducible repeat (first | apply Kd.R_alloc | apply Kd.R_drewN | apply Kd.R_drew)); exact HO129.out) hb); have n2_ := Aside0.mk (Kd.R_below (by (with_reducible repeat (first | apply Kd.R_alloc | apply Kd.R_drewN | apply Kd.R_drew)); exact HO133.out) hb); have n3_ := Aside0.mk (below_step (by repeat (first | (with_reducible first | exact HB.out | apply below_alloc | apply pw_below_drewN | apply below_drew1) | exact HB.out)) hb); clear HO126; clear HO129; clear HO133; clear HB; have HO126 := n0_; have HO129 := n1_; have HO133 := n2_; have HB := n3_; clear n0_ n1_ n2_ n3_; (try clear hb); (try clear hb2); (try clear hk); (try clear hi)) | (go_at_call 18; (refine (fcs_Good.calls _ _ ([] : List Int) false false _ ?side1 ?side2 A14.out).mono ?_); (case side1 => exact Kd.C_nil _ _); (case side2 => exact Nat.le_refl _); rintro e w35 ⟨rfl, hb⟩; have n0_ := Aside0.mk (Kd.V_below (by (with_reducible repeat (first | apply Kd.V_alloc | apply Kd.V_drewN | apply Kd.V_drew)); exact HO126.out) hb); have n1_ := Aside0.mk (Kd.R_below (by (with_reducible repeat (first | apply Kd.R_alloc | apply Kd.R_drewN | apply Kd.R_drew)); exact HO129.out) hb); have n2_ := Aside0.mk (Kd.R_below (by (with_reducible repeat (first | apply Kd.R_alloc | apply Kd.R_drewN | apply Kd.R_drew)); exact HO133.out) hb); have n3_ := Aside0.mk (below_step (by repeat (first | (with_reducible first | exact HB.out | apply below_alloc | apply pw_below_drewN | apply below_drew1) | exact HB.out)) hb); clear HO126; clear HO129; clear HO133; clear HB; have HO126 := n0_; have HO129 := n1_; have HO133 := n2_; have HB := n3_; clear n0_ n1_ n2_ n3_; (try clear hb); (try clear hb2); (try clear hk); (try clear hi)) | (go_at_call 14; (with_reducible refine (fcs_Size.calls true t139 _ A16.out).mono ?_); rintro e w' ⟨rfl, ⟨nd, rfl⟩⟩) | (go_at_call 10; (with_reducible refine (fcs_More.calls 65535 _ _ y124 false t140 _ ?side1 ?side2 A18.out).mono ?_); (case side1 => repeat (first | exact (Kd.V_reads' HO126.out).2.2 | (with_reducible refine Kd.C_alloc ?_ _) | (with_reducible refine Kd.C_drewN ?_ _) | (with_reducible refine Kd.C_drew ?_))); (case side2 => exact (Kd.V_reads' HO126.out).2.1); rintro e w36 ⟨rfl, hb⟩; have n0_ := Aside0.mk (Kd.V_below (by (with_reducible repeat (first | apply Kd.V_alloc | apply Kd.V_drewN | apply Kd.V_drew)); exact HO126.out) hb); have n1_ := Aside0.mk (Kd.R_below (by (with_reducible repeat (first | apply Kd.R_alloc | apply Kd.R_drewN | apply Kd.R_drew)); exact HO129.out) hb); have n2_ := Aside0.mk (Kd.R_below (by (with_reducible repeat (first | apply Kd.R_alloc | apply Kd.R_drewN | apply Kd.R_drew)); exact HO133.out) hb); have n3_ := Aside0.mk (below_step (by repeat (first | (with_reducible first | exact HB.out | apply below_alloc | apply pw_below_drewN | apply below_drew1) | exact HB.out)) hb); clear HO126; clear HO129; clear HO133; clear HB; have HO126 := n0_; have HO129 := n1_; have HO133 := n2_; have HB := n3_; clear n0_ n1_ n2_ n3_; (try clear hb); (try clear hb2); (try clear hk); (try clear hi)))
                    go_ret
                    exact ⟨by first | rfl | (simp [errW_none, errW_some] <;> rfl) | (simp [*, errW_none, errW_some] <;> rfl), by repeat (first | (with_reducible first | exact HB.out | apply below_alloc | apply pw_below_drewN | apply below_drew1) | exact HB.out)⟩
                  · rw [if_neg c17] at H
                    exact absurd H (by simp)
            · replace c11 := Bool.eq_false_iff.mpr c11
              subst c11
              have H1 : (none) = some r := by rw [if_neg (show ¬ (false = true) by decide)] at H; exact H
              clear H
              have H := H1
              clear H1
              exact absurd H (by simp)
          · rw [if_neg c9] at H
            exact absurd H (by simp)
        · replace c8 := Bool.eq_false_iff.mpr c8
          subst c8
          have H1 : (none) = some r := by rw [if_neg (show ¬ (false = true) by decide)] at H; exact H
          clear H
          have H := H1
          clear H1
          exact absurd H (by simp)
      · rw [if_neg c7] at H
        exact absurd H (by simp)
    · rw [if_neg c6] at H
      exact absurd H (by simp)
  · rw [if_neg c4] at H
    exact absurd H (by simp)

end Go.Proofs.Ytnokndhppdkmdaa.Print
