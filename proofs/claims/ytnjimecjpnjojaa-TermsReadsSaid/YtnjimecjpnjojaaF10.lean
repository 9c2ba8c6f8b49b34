-- laid by this session's own program (wip/mkprint.sh) for this claim
import Derived.Test.Ytnjimecjpnjojaa0
import Derived.Test.YtnjimecjpnjojaaE2
import Derived.Test.YtnjimecjpnjojaaF26
import Derived.Test.YtnjimecjpnjojaaF31
import Derived.Test.YtnjimecjpnjojaaF32
import Derived.Test.YtnjimecjpnjojaaF33
import Derived.Test.YtnjimecjpnjojaaF34
import Derived.Test.YtnjimecjpnjojaaF35
namespace Go.Proofs.Ytnjimecjpnjojaa.Print
open Go.RowKit Go.Proofs.YtnjimecjpnjojaaW.PrintWords Go.Proofs.YtnjimecjpnjojaaW.PrintLast Go.Proofs.YtnjimecjpnjojaaW.PrintMore
attribute [local go_sem] max2_int min2_int max_two min_two max_three min_three max_four min_four   -- for this text's walks alone
set_option linter.unusedVariables false
set_option linter.unusedSimpArgs false

attribute [local go_sem high] eqA61
/-! ### umpirelaw14_TermsReads: function 10 -/
def umpirelaw14_TermsReads.j0 : Nat → List (S55) → Bool → Option (Bool)
  | 0, _, _ => none
  | k + 1, x0, x13 => if x13 = true then ((umpirelaw14_awake.f k).bind fun t673 => (some t673)) else ((terms_Read.f k x0).bind fun bt674 => ((umpireref14_Read.f k x0).bind fun bt686 => (if (bt674.1 == bt686.1 && (bt674.2.1 == bt686.2.1 && (bt674.2.2.1 == bt686.2.2.1 && (bt674.2.2.2.1 == bt686.2.2.2.1 && (bt674.2.2.2.2.1 == bt686.2.2.2.2.1 && (bt674.2.2.2.2.2.1 == bt686.2.2.2.2.2.1 && (bt674.2.2.2.2.2.2.1 == bt686.2.2.2.2.2.2.1 && (bt674.2.2.2.2.2.2.2.1 == bt686.2.2.2.2.2.2.2.1 && (bt674.2.2.2.2.2.2.2.2.1 == bt686.2.2.2.2.2.2.2.2.1 && (bt674.2.2.2.2.2.2.2.2.2.1 == bt686.2.2.2.2.2.2.2.2.2.1)))))))))) = true then (if (bt674.2.2.2.2.2.2.2.2.2.2 == bt686.2.2.2.2.2.2.2.2.2.2) = true then ((terms_Login.f k x0).bind fun t698 => ((umpireref14_Login.f k x0).bind fun t699 => (some (t698 == t699)))) else (none)) else (none))))
def umpirelaw14_TermsReads.f (k : Nat) (l0 : List (S55)) : Option (Bool) := (umpirelaw14_awake.f k).bind fun t671 => (if t671 = true then ((umpireref12_Few.f k l0).bind fun t672 => (umpirelaw14_TermsReads.j0 k l0 (!t672))) else (umpirelaw14_TermsReads.j0 k l0 true))
theorem umpirelaw14_TermsReads.mono_l : ∀ k, (∀ y0 y1, LeO (umpirelaw14_TermsReads.j0 k y0 y1) (umpirelaw14_TermsReads.j0 (k + 1) y0 y1))
  | 0 => fun _ _ r h => by simp [umpirelaw14_TermsReads.j0] at h
  | k + 1 => by
    have ih0 := umpirelaw14_TermsReads.mono_l k
    · intro y0 y1
      unfold umpirelaw14_TermsReads.j0
      repeat' first
      | (with_reducible exact ih0 _ _)
      | (with_reducible exact terms_Login.mono _ _)
      | (with_reducible exact terms_Read.mono _ _)
      | (with_reducible exact umpirelaw14_awake.mono _)
      | (with_reducible exact umpireref12_Few.mono _ _)
      | (with_reducible exact umpireref14_Login.mono _ _)
      | (with_reducible exact umpireref14_Read.mono _ _)
      | (with_reducible exact LeO.refl _)
      | (with_reducible exact LeO.none _)
      | (with_reducible refine LeO.ite ?_ ?_)
      | (with_reducible refine LeO.bind ?_ (fun _ => ?_))
      | exact ih0 _ _
      | exact terms_Login.mono _ _
      | exact terms_Read.mono _ _
      | exact umpirelaw14_awake.mono _
      | exact umpireref12_Few.mono _ _
      | exact umpireref14_Login.mono _ _
      | exact umpireref14_Read.mono _ _
      | exact LeO.none _
      | refine LeO.ite ?_ ?_
      | refine LeO.bind ?_ (fun _ => ?_)
theorem umpirelaw14_TermsReads.mono : ∀ a0 k, LeO (umpirelaw14_TermsReads.f k a0) (umpirelaw14_TermsReads.f (k + 1) a0) := by
  intro a0 k
  have ih0 := umpirelaw14_TermsReads.mono_l k
  unfold umpirelaw14_TermsReads.f
  repeat' first
      | (with_reducible exact ih0 _ _)
      | (with_reducible exact terms_Login.mono _ _)
      | (with_reducible exact terms_Read.mono _ _)
      | (with_reducible exact umpirelaw14_awake.mono _)
      | (with_reducible exact umpireref12_Few.mono _ _)
      | (with_reducible exact umpireref14_Login.mono _ _)
      | (with_reducible exact umpireref14_Read.mono _ _)
      | (with_reducible exact LeO.refl _)
      | (with_reducible exact LeO.none _)
      | (with_reducible refine LeO.ite ?_ ?_)
      | (with_reducible refine LeO.bind ?_ (fun _ => ?_))
      | exact ih0 _ _
      | exact terms_Login.mono _ _
      | exact terms_Read.mono _ _
      | exact umpirelaw14_awake.mono _
      | exact umpireref12_Few.mono _ _
      | exact umpireref14_Login.mono _ _
      | exact umpireref14_Read.mono _ _
      | exact LeO.none _
      | refine LeO.ite ?_ ?_
      | refine LeO.bind ?_ (fun _ => ?_)
set_option maxHeartbeats 8000000 in
set_option maxRecDepth 100000 in
theorem umpirelaw14_TermsReads.calls (k : Nat) (A0 : Option Addr) (c0 : Nat) (l0 : List (S55)) (r : Bool) (w : World) (hr0 : Kd.C k55 w A0 l0.length l0) (hc0 : l0.length ≤ c0) (h : umpirelaw14_TermsReads.f k l0 = some r) :
    Calls Try.prog 10 #[.slice A0 l0.length c0] w fun e w' => e = .returned (.bool r) ∧ Below w.heap.size w w' := by
  have hu61 := Try.underlying61
  have HR0 := Aside0.mk hr0
  have HC0 := Aside0.mk hc0
  clear hr0 hc0
  have HB := Aside0.mk (Below.refl w.heap.size w)
  have H : ((umpirelaw14_awake.f k).bind fun t671 => (if t671 = true then ((umpireref12_Few.f k l0).bind fun t672 => (umpirelaw14_TermsReads.j0 k l0 (!t672))) else (umpirelaw14_TermsReads.j0 k l0 true))) = some r := h
  clear h
  have HC2 := Aside0.mk H
  clear H
  go_enter Try.func10, Try.ntmps10
  go_upto_region 1 with (fail)
  go_cut [13] (fun v13 wc => ∃ (kq : Nat) (x13_1 : Bool), v13 = .bool x13_1 ∧ Aside0 (umpirelaw14_TermsReads.j0 kq l0 x13_1 = some r) ∧ Aside0 (kq ≤ k) ∧ Aside0 (Below w.heap.size w wc))
  case first =>
    have H := HC2.out
    clear HC2
    replace H := Option.bind_eq_some_iff.mp H
    obtain ⟨t671, A30, H⟩ := H
    replace H : (if t671 = true then ((umpireref12_Few.f k l0).bind fun t672 => (umpirelaw14_TermsReads.j0 k l0 (!t672))) else (umpirelaw14_TermsReads.j0 k l0 true)) = some r := H
    have A3 := Aside0.mk A30
    clear A30
    by_cases c4 : t671 = true
    · subst c4
      have H1 : ((umpireref12_Few.f k l0).bind fun t672 => (umpirelaw14_TermsReads.j0 k l0 (!t672))) = some r := by rw [if_pos rfl] at H; exact H
      clear H
      have H := H1
      clear H1
      replace H := Option.bind_eq_some_iff.mp H
      obtain ⟨t672, A50, H⟩ := H
      replace H : (umpirelaw14_TermsReads.j0 k l0 (!t672)) = some r := H
      have A5 := Aside0.mk A50
      clear A50
      have H' := Aside0.mk H
      clear H
      go_wp2_with (first | ((with_reducible refine gate_callee (f := 26) rfl ?_); refine goesL_ (some 7) rfl rfl Try.func26 (by kernel_rfl) rfl #[] rfl (by (try simp only [List.map_toArray, List.map_cons, List.map_nil]); first | done | rfl | (simp only [List.length_drop, List.length_take]; rfl)) ?_; (with_reducible refine (umpirelaw14_awake.calls k  true _ A3.out).mono ?_); rintro e w6 ⟨rfl, hb⟩; refine ⟨_, rfl, ?_⟩; have n0_ := Aside0.mk (below_step (by repeat (first | (with_reducible first | exact HB.out | apply below_alloc | apply pw_below_drewN | apply below_drew1) | exact HB.out)) hb); clear HB; have HB := n0_; clear n0_; (try clear hb); (try clear hb2); (try clear hk); (try clear hi)) | (go_at_call 31; (with_reducible refine (umpireref12_Few.calls k _ _ l0 t672 _ ?side1 ?side2 A5.out).mono ?_); (case side1 => repeat (first | exact (Kd.C_below HR0.out HB.out) | (with_reducible refine Kd.C_alloc ?_ _) | (with_reducible refine Kd.C_drewN ?_ _) | (with_reducible refine Kd.C_drew ?_))); (case side2 => exact HC0.out); rintro e w' ⟨rfl, ⟨nd, rfl⟩⟩))
      go_meet
      case rel => exact ⟨_, (!t672), (by first | rfl | (simp; done) | (simp [*]; done)), H', ⟨by first | omega | exact Nat.le_refl _⟩, ⟨by repeat (first | (with_reducible first | exact HB.out | apply below_alloc | apply pw_below_drewN | apply below_drew1) | exact HB.out)⟩⟩
    · replace c4 := Bool.eq_false_iff.mpr c4
      subst c4
      have H1 : (umpirelaw14_TermsReads.j0 k l0 true) = some r := by rw [if_neg (show ¬ (false = true) by decide)] at H; exact H
      clear H
      have H := H1
      clear H1
      have H' := Aside0.mk H
      clear H
      go_wp2_with (first | ((with_reducible refine gate_callee (f := 26) rfl ?_); refine goesL_ (some 7) rfl rfl Try.func26 (by kernel_rfl) rfl #[] rfl (by (try simp only [List.map_toArray, List.map_cons, List.map_nil]); first | done | rfl | (simp only [List.length_drop, List.length_take]; rfl)) ?_; (with_reducible refine (umpirelaw14_awake.calls k  false _ A3.out).mono ?_); rintro e w7 ⟨rfl, hb⟩; refine ⟨_, rfl, ?_⟩; have n0_ := Aside0.mk (below_step (by repeat (first | (with_reducible first | exact HB.out | apply below_alloc | apply pw_below_drewN | apply below_drew1) | exact HB.out)) hb); clear HB; have HB := n0_; clear n0_; (try clear hb); (try clear hb2); (try clear hk); (try clear hi)))
      go_meet
      case rel => exact ⟨_, (true), (by first | rfl | (simp; done) | (simp [*]; done)), H', ⟨by first | omega | exact Nat.le_refl _⟩, ⟨by repeat (first | (with_reducible first | exact HB.out | apply below_alloc | apply pw_below_drewN | apply below_drew1) | exact HB.out)⟩⟩
  case rest =>
    clear HC2
    try clear c1
    try clear c2
    try clear p2
    try clear c4
    obtain ⟨kq, x13_1, rfl, HA, HJ1, HB⟩ := hcut
    cases kq with
    | zero => exact absurd HA.out (by simp [umpirelaw14_TermsReads.j0])
    | succ kj1 =>
      have H := HA.out
      clear HA
      simp only [umpirelaw14_TermsReads.j0] at H
      by_cases c8 : x13_1 = true
      · subst c8
        have H1 : ((umpirelaw14_awake.f kj1).bind fun t673 => (some t673)) = some r := by rw [if_pos rfl] at H; exact H
        clear H
        have H := H1
        clear H1
        replace H := Option.bind_eq_some_iff.mp H
        obtain ⟨t673, A90, H⟩ := H
        replace H : (some t673) = some r := H
        have A9 := Aside0.mk A90
        clear A90
        obtain rfl := Option.some.inj H
        go_wp2_with (first | ((with_reducible refine gate_callee (f := 26) rfl ?_); refine goesL_ (some 14) rfl rfl Try.func26 (by kernel_rfl) rfl #[] rfl (by (try simp only [List.map_toArray, List.map_cons, List.map_nil]); first | done | rfl | (simp only [List.length_drop, List.length_take]; rfl)) ?_; (with_reducible refine (umpirelaw14_awake.calls kj1  t673 _ A9.out).mono ?_); rintro e w10 ⟨rfl, hb⟩; refine ⟨_, rfl, ?_⟩; have n0_ := Aside0.mk (below_step (by repeat (first | (with_reducible first | exact HB.out | apply below_alloc | apply pw_below_drewN | apply below_drew1) | exact HB.out)) hb); clear HB; have HB := n0_; clear n0_; (try clear hb); (try clear hb2); (try clear hk); (try clear hi)))
        go_ret
        exact ⟨by first | rfl | (simp [errW_none, errW_some] <;> rfl) | (simp [*, errW_none, errW_some] <;> rfl), by repeat (first | (with_reducible first | exact HB.out | apply below_alloc | apply pw_below_drewN | apply below_drew1) | exact HB.out)⟩
      · replace c8 := Bool.eq_false_iff.mpr c8
        subst c8
        have H1 : ((terms_Read.f kj1 l0).bind fun bt674 => ((umpireref14_Read.f kj1 l0).bind fun bt686 => (if (bt674.1 == bt686.1 && (bt674.2.1 == bt686.2.1 && (bt674.2.2.1 == bt686.2.2.1 && (bt674.2.2.2.1 == bt686.2.2.2.1 && (bt674.2.2.2.2.1 == bt686.2.2.2.2.1 && (bt674.2.2.2.2.2.1 == bt686.2.2.2.2.2.1 && (bt674.2.2.2.2.2.2.1 == bt686.2.2.2.2.2.2.1 && (bt674.2.2.2.2.2.2.2.1 == bt686.2.2.2.2.2.2.2.1 && (bt674.2.2.2.2.2.2.2.2.1 == bt686.2.2.2.2.2.2.2.2.1 && (bt674.2.2.2.2.2.2.2.2.2.1 == bt686.2.2.2.2.2.2.2.2.2.1)))))))))) = true then (if (bt674.2.2.2.2.2.2.2.2.2.2 == bt686.2.2.2.2.2.2.2.2.2.2) = true then ((terms_Login.f kj1 l0).bind fun t698 => ((umpireref14_Login.f kj1 l0).bind fun t699 => (some (t698 == t699)))) else (none)) else (none)))) = some r := by rw [if_neg (show ¬ (false = true) by decide)] at H; exact H
        clear H
        have H := H1
        clear H1
        replace H := Option.bind_eq_some_iff.mp H
        obtain ⟨⟨t674, t675, t676, t677, t678, t679, t680, t681, t682, t683, t684⟩, A110, H⟩ := H
        replace H : ((umpireref14_Read.f kj1 l0).bind fun bt686 => (if (t674 == bt686.1 && (t675 == bt686.2.1 && (t676 == bt686.2.2.1 && (t677 == bt686.2.2.2.1 && (t678 == bt686.2.2.2.2.1 && (t679 == bt686.2.2.2.2.2.1 && (t680 == bt686.2.2.2.2.2.2.1 && (t681 == bt686.2.2.2.2.2.2.2.1 && (t682 == bt686.2.2.2.2.2.2.2.2.1 && (t683 == bt686.2.2.2.2.2.2.2.2.2.1)))))))))) = true then (if (t684 == bt686.2.2.2.2.2.2.2.2.2.2) = true then ((terms_Login.f kj1 l0).bind fun t698 => ((umpireref14_Login.f kj1 l0).bind fun t699 => (some (t698 == t699)))) else (none)) else (none))) = some r := H
        have A11 := Aside0.mk A110
        clear A110
        replace H := Option.bind_eq_some_iff.mp H
        obtain ⟨⟨t686, t687, t688, t689, t690, t691, t692, t693, t694, t695, t696⟩, A120, H⟩ := H
        replace H : (if (t674 == t686 && (t675 == t687 && (t676 == t688 && (t677 == t689 && (t678 == t690 && (t679 == t691 && (t680 == t692 && (t681 == t693 && (t682 == t694 && (t683 == t695)))))))))) = true then (if (t684 == t696) = true then ((terms_Login.f kj1 l0).bind fun t698 => ((umpireref14_Login.f kj1 l0).bind fun t699 => (some (t698 == t699)))) else (none)) else (none)) = some r := H
        have A12 := Aside0.mk A120
        clear A120
        by_cases c13 : (t674 == t686 && (t675 == t687 && (t676 == t688 && (t677 == t689 && (t678 == t690 && (t679 == t691 && (t680 == t692 && (t681 == t693 && (t682 == t694 && (t683 == t695)))))))))) = true
        · rw [if_pos c13] at H
          have c13b0 : (t674 == t686 && (t675 == t687 && (t676 == t688 && (t677 == t689 && (t678 == t690 && (t679 == t691 && (t680 == t692 && (t681 == t693 && (t682 == t694 && (t683 == t695)))))))))) = true := c13
          (try (have c13b1 : decide (t674 = t686 && (t675 == t687 && (t676 == t688 && (t677 == t689 && (t678 == t690 && (t679 == t691 && (t680 == t692 && (t681 == t693 && (t682 == t694 && (t683 == t695)))))))))) = true := by simpa using c13))
          (try (have c13b2 : (t674 == t686 && (t675 == t687 && (t676 == t688 && (t677 == t689 && (t678 == t690 && (t679 == t691 && (t680 == t692 && (t681 == t693 && (t682 == t694 && (t683 == t695)))))))))) = true := by simpa using c13))
          clear c13
          by_cases c14 : (t684 == t696) = true
          · rw [if_pos c14] at H
            have c14b0 : (t684 == t696) = true := c14
            (try (have c14b1 : decide (t684 = t696) = true := by simpa using c14))
            (try (have c14b2 : (t684 == t696) = true := by simpa using c14))
            clear c14
            replace H := Option.bind_eq_some_iff.mp H
            obtain ⟨t698, A150, H⟩ := H
            replace H : ((umpireref14_Login.f kj1 l0).bind fun t699 => (some (t698 == t699))) = some r := H
            have A15 := Aside0.mk A150
            clear A150
            replace H := Option.bind_eq_some_iff.mp H
            obtain ⟨t699, A160, H⟩ := H
            replace H : (some (t698 == t699)) = some r := H
            have A16 := Aside0.mk A160
            clear A160
            obtain rfl := Option.some.inj H
            go_wp2_with (first | ((with_reducible refine gate_callee (f := 32) rfl ?_); refine goesL_ (some 17) rfl rfl Try.func32 (by kernel_rfl) rfl #[.slice A0 l0.length c0] rfl (by (try simp only [List.map_toArray, List.map_cons, List.map_nil]); first | done | rfl | (simp only [List.length_drop, List.length_take]; rfl)) ?_; (with_reducible refine (terms_Read.calls kj1 _ _ l0 t674 t675 t676 t677 t678 t679 t680 t681 t682 t683 t684 _ ?side1 ?side2 A11.out).mono ?_); (case side1 => repeat (first | exact (Kd.C_below HR0.out HB.out) | (with_reducible refine Kd.C_alloc ?_ _) | (with_reducible refine Kd.C_drewN ?_ _) | (with_reducible refine Kd.C_drew ?_))); (case side2 => exact HC0.out); rintro e w17 ⟨rfl, hb⟩; refine ⟨_, rfl, ?_⟩; have n0_ := Aside0.mk (below_step (by repeat (first | (with_reducible first | exact HB.out | apply below_alloc | apply pw_below_drewN | apply below_drew1) | exact HB.out)) hb); clear HB; have HB := n0_; clear n0_; (try clear hb); (try clear hb2); (try clear hk); (try clear hi)) | ((with_reducible refine gate_dst (N := 3) rfl ?_); refine box_event ?hg (N := 3) ?hd (cs := #[.bool false, .int .i64 0, .bool false, .int .u32 0, .int .i64 0, .bool false, .bool false, .int .u32 0, .bool false, .bool false]) (t := 61) ?hr ?_; (case hd => rfl); (case hg => rfl); (case hr => first | (go_simp; done) | (go_simp; rfl)); intro gb685 hg w18 hbox hb; have n0_ := Aside0.mk (below_step (by repeat (first | (with_reducible first | exact HB.out | apply below_alloc | apply pw_below_drewN | apply below_drew1) | exact HB.out)) hb); have n1_ := Aside0.mk (hbox); have n2_ := Aside0.mk ((by rw [hg]; exact (below_size (by repeat (first | (with_reducible first | exact HB.out | apply below_alloc | apply pw_below_drewN | apply below_drew1) | exact HB.out))) : w.heap.size ≤ gb685)); have n3_ := Aside0.mk ((by rw [hg]; exact (below_size (by repeat (first | (with_reducible first | exact HB.out | apply below_alloc | apply pw_below_drewN | apply below_drew1) | exact HB.out))) : w.heap.size ≤ gb685)); clear HB; have HB := n0_; have BK685 := n1_; have GW685 := n2_; have GE685 := n3_; clear n0_ n1_ n2_ n3_; clear hb hbox hg; have hcz19_0 : w18.cell? ⟨gb685, 0, none⟩ = some (.bool false) := (blk_cell BK685.out 0).trans rfl; have hcz19_1 : w18.cell? ⟨gb685, 1, none⟩ = some (.int .i64 0) := (blk_cell BK685.out 1).trans rfl; have hcz19_2 : w18.cell? ⟨gb685, 2, none⟩ = some (.bool false) := (blk_cell BK685.out 2).trans rfl; have hcz19_3 : w18.cell? ⟨gb685, 3, none⟩ = some (.int .u32 0) := (blk_cell BK685.out 3).trans rfl; have hcz19_4 : w18.cell? ⟨gb685, 4, none⟩ = some (.int .i64 0) := (blk_cell BK685.out 4).trans rfl; have hcz19_5 : w18.cell? ⟨gb685, 5, none⟩ = some (.bool false) := (blk_cell BK685.out 5).trans rfl; have hcz19_6 : w18.cell? ⟨gb685, 6, none⟩ = some (.bool false) := (blk_cell BK685.out 6).trans rfl; have hcz19_7 : w18.cell? ⟨gb685, 7, none⟩ = some (.int .u32 0) := (blk_cell BK685.out 7).trans rfl; have hcz19_8 : w18.cell? ⟨gb685, 8, none⟩ = some (.bool false) := (blk_cell BK685.out 8).trans rfl; have hcz19_9 : w18.cell? ⟨gb685, 9, none⟩ = some (.bool false) := (blk_cell BK685.out 9).trans rfl; have hfz19_0 := blk_frozen BK685.out 0; have hfz19_1 := blk_frozen BK685.out 1; have hfz19_2 := blk_frozen BK685.out 2; have hfz19_3 := blk_frozen BK685.out 3; have hfz19_4 := blk_frozen BK685.out 4; have hfz19_5 := blk_frozen BK685.out 5; have hfz19_6 := blk_frozen BK685.out 6; have hfz19_7 := blk_frozen BK685.out 7; have hfz19_8 := blk_frozen BK685.out 8; have hfz19_9 := blk_frozen BK685.out 9) | ((with_reducible refine gate_callee (f := 33) rfl ?_); refine goesL_ (some 22) rfl rfl Try.func33 (by kernel_rfl) rfl #[.slice A0 l0.length c0] rfl (by (try simp only [List.map_toArray, List.map_cons, List.map_nil]); first | done | rfl | (simp only [List.length_drop, List.length_take]; rfl)) ?_; (with_reducible refine (umpireref14_Read.calls kj1 _ _ l0 t686 t687 t688 t689 t690 t691 t692 t693 t694 t695 t696 _ ?side1 ?side2 A12.out).mono ?_); (case side1 => exact Kd.C_below HR0.out (by repeat (first | (with_reducible first | exact HB.out | apply below_alloc | apply pw_below_drewN | apply below_drew1 | refine below_set ?_ GE685.out) | exact HB.out))); (case side2 => exact HC0.out); rintro e w20 ⟨rfl, hb⟩; refine ⟨_, rfl, ?_⟩; have n0_ := Aside0.mk (blk_below (g := gb685) (o := .cells #[.bool t674, .int .i64 t675, .bool t676, .int .u32 t677, .int .i64 t678, .bool t679, .bool t680, .int .u32 t681, .bool t682, .bool t683] 61 (0, 0)) (by (with_reducible repeat (first | refine blk_drewN ?_ _ | refine blk_drew ?_ | refine blk_alloc ?_ _)); refine blk_put (cs := #[.bool t674, .int .i64 t675, .bool t676, .int .u32 t677, .int .i64 t678, .bool t679, .bool t680, .int .u32 t681, .bool t682, .bool false]) ?_ 9 _ rfl; (with_reducible repeat (first | refine blk_drewN ?_ _ | refine blk_drew ?_ | refine blk_alloc ?_ _)); refine blk_put (cs := #[.bool t674, .int .i64 t675, .bool t676, .int .u32 t677, .int .i64 t678, .bool t679, .bool t680, .int .u32 t681, .bool false, .bool false]) ?_ 8 _ rfl; (with_reducible repeat (first | refine blk_drewN ?_ _ | refine blk_drew ?_ | refine blk_alloc ?_ _)); refine blk_put (cs := #[.bool t674, .int .i64 t675, .bool t676, .int .u32 t677, .int .i64 t678, .bool t679, .bool t680, .int .u32 0, .bool false, .bool false]) ?_ 7 _ rfl; (with_reducible repeat (first | refine blk_drewN ?_ _ | refine blk_drew ?_ | refine blk_alloc ?_ _)); refine blk_put (cs := #[.bool t674, .int .i64 t675, .bool t676, .int .u32 t677, .int .i64 t678, .bool t679, .bool false, .int .u32 0, .bool false, .bool false]) ?_ 6 _ rfl; (with_reducible repeat (first | refine blk_drewN ?_ _ | refine blk_drew ?_ | refine blk_alloc ?_ _)); refine blk_put (cs := #[.bool t674, .int .i64 t675, .bool t676, .int .u32 t677, .int .i64 t678, .bool false, .bool false, .int .u32 0, .bool false, .bool false]) ?_ 5 _ rfl; (with_reducible repeat (first | refine blk_drewN ?_ _ | refine blk_drew ?_ | refine blk_alloc ?_ _)); refine blk_put (cs := #[.bool t674, .int .i64 t675, .bool t676, .int .u32 t677, .int .i64 0, .bool false, .bool false, .int .u32 0, .bool false, .bool false]) ?_ 4 _ rfl; (with_reducible repeat (first | refine blk_drewN ?_ _ | refine blk_drew ?_ | refine blk_alloc ?_ _)); refine blk_put (cs := #[.bool t674, .int .i64 t675, .bool t676, .int .u32 0, .int .i64 0, .bool false, .bool false, .int .u32 0, .bool false, .bool false]) ?_ 3 _ rfl; (with_reducible repeat (first | refine blk_drewN ?_ _ | refine blk_drew ?_ | refine blk_alloc ?_ _)); refine blk_put (cs := #[.bool t674, .int .i64 t675, .bool false, .int .u32 0, .int .i64 0, .bool false, .bool false, .int .u32 0, .bool false, .bool false]) ?_ 2 _ rfl; (with_reducible repeat (first | refine blk_drewN ?_ _ | refine blk_drew ?_ | refine blk_alloc ?_ _)); refine blk_put (cs := #[.bool t674, .int .i64 0, .bool false, .int .u32 0, .int .i64 0, .bool false, .bool false, .int .u32 0, .bool false, .bool false]) ?_ 1 _ rfl; (with_reducible repeat (first | refine blk_drewN ?_ _ | refine blk_drew ?_ | refine blk_alloc ?_ _)); refine blk_put (cs := #[.bool false, .int .i64 0, .bool false, .int .u32 0, .int .i64 0, .bool false, .bool false, .int .u32 0, .bool false, .bool false]) ?_ 0 _ rfl; (with_reducible repeat (first | refine blk_drewN ?_ _ | refine blk_drew ?_ | refine blk_alloc ?_ _)); exact BK685.out) hb); have n1_ := Aside0.mk (below_step (by repeat (first | (with_reducible first | exact HB.out | apply below_alloc | apply pw_below_drewN | apply below_drew1 | refine below_set ?_ GE685.out) | exact HB.out)) hb); clear BK685; clear HB; have BK685 := n0_; have HB := n1_; clear n0_ n1_; (try clear hb); (try clear hb2); (try clear hk); (try clear hi)) | ((with_reducible refine gate_dst (N := 5) rfl ?_); refine box_event ?hg (N := 5) ?hd (cs := #[.bool false, .int .i64 0, .bool false, .int .u32 0, .int .i64 0, .bool false, .bool false, .int .u32 0, .bool false, .bool false]) (t := 61) ?hr ?_; (case hd => rfl); (case hg => rfl); (case hr => first | (go_simp; done) | (go_simp; rfl)); intro gb697 hg w21 hbox hb; have n0_ := Aside0.mk (blk_below (g := gb685) (o := .cells #[.bool t674, .int .i64 t675, .bool t676, .int .u32 t677, .int .i64 t678, .bool t679, .bool t680, .int .u32 t681, .bool t682, .bool t683] 61 (0, 0)) (by (with_reducible repeat (first | refine blk_drewN ?_ _ | refine blk_drew ?_ | refine blk_alloc ?_ _)); exact BK685.out) hb); have n1_ := Aside0.mk (below_step (by repeat (first | (with_reducible first | exact HB.out | apply below_alloc | apply pw_below_drewN | apply below_drew1 | refine below_set ?_ GE685.out) | exact HB.out)) hb); have n2_ := Aside0.mk (hbox); have n3_ := Aside0.mk ((by rw [hg]; exact (below_size (by repeat (first | (with_reducible first | exact HB.out | apply below_alloc | apply pw_below_drewN | apply below_drew1 | refine below_set ?_ GE685.out) | exact HB.out))) : w.heap.size ≤ gb697)); have n4_ := Aside0.mk ((by rw [hg]; exact (below_size (by repeat (first | (with_reducible first | exact HB.out | apply below_alloc | apply pw_below_drewN | apply below_drew1 | refine below_set ?_ GE685.out) | exact HB.out))) : w.heap.size ≤ gb697)); have n5_ := Aside0.mk ((by rw [hg]; exact Nat.ne_of_lt (blk_lt (g := gb685) (o := .cells #[.bool t674, .int .i64 t675, .bool t676, .int .u32 t677, .int .i64 t678, .bool t679, .bool t680, .int .u32 t681, .bool t682, .bool t683] 61 (0, 0)) (by (with_reducible repeat (first | refine blk_drewN ?_ _ | refine blk_drew ?_ | refine blk_alloc ?_ _)); exact BK685.out)) : gb685 ≠ gb697)); have n6_ := Aside0.mk ((by rw [hg]; exact Nat.ne_of_gt (blk_lt (g := gb685) (o := .cells #[.bool t674, .int .i64 t675, .bool t676, .int .u32 t677, .int .i64 t678, .bool t679, .bool t680, .int .u32 t681, .bool t682, .bool t683] 61 (0, 0)) (by (with_reducible repeat (first | refine blk_drewN ?_ _ | refine blk_drew ?_ | refine blk_alloc ?_ _)); exact BK685.out)) : gb697 ≠ gb685)); clear BK685; clear HB; have BK685 := n0_; have HB := n1_; have BK697 := n2_; have GW697 := n3_; have GE697 := n4_; have NB685_697 := n5_; have NB697_685 := n6_; clear n0_ n1_ n2_ n3_ n4_ n5_ n6_; clear hb hbox hg; have hnb22 := NB697_685.out; have hnc22 := NB685_697.out; have hcz23_0 : w21.cell? ⟨gb697, 0, none⟩ = some (.bool false) := (blk_cell BK697.out 0).trans rfl; have hcz23_1 : w21.cell? ⟨gb697, 1, none⟩ = some (.int .i64 0) := (blk_cell BK697.out 1).trans rfl; have hcz23_2 : w21.cell? ⟨gb697, 2, none⟩ = some (.bool false) := (blk_cell BK697.out 2).trans rfl; have hcz23_3 : w21.cell? ⟨gb697, 3, none⟩ = some (.int .u32 0) := (blk_cell BK697.out 3).trans rfl; have hcz23_4 : w21.cell? ⟨gb697, 4, none⟩ = some (.int .i64 0) := (blk_cell BK697.out 4).trans rfl; have hcz23_5 : w21.cell? ⟨gb697, 5, none⟩ = some (.bool false) := (blk_cell BK697.out 5).trans rfl; have hcz23_6 : w21.cell? ⟨gb697, 6, none⟩ = some (.bool false) := (blk_cell BK697.out 6).trans rfl; have hcz23_7 : w21.cell? ⟨gb697, 7, none⟩ = some (.int .u32 0) := (blk_cell BK697.out 7).trans rfl; have hcz23_8 : w21.cell? ⟨gb697, 8, none⟩ = some (.bool false) := (blk_cell BK697.out 8).trans rfl; have hcz23_9 : w21.cell? ⟨gb697, 9, none⟩ = some (.bool false) := (blk_cell BK697.out 9).trans rfl; have hfz23_0 := blk_frozen BK697.out 0; have hfz23_1 := blk_frozen BK697.out 1; have hfz23_2 := blk_frozen BK697.out 2; have hfz23_3 := blk_frozen BK697.out 3; have hfz23_4 := blk_frozen BK697.out 4; have hfz23_5 := blk_frozen BK697.out 5; have hfz23_6 := blk_frozen BK697.out 6; have hfz23_7 := blk_frozen BK697.out 7; have hfz23_8 := blk_frozen BK697.out 8; have hfz23_9 := blk_frozen BK697.out 9; have hcz24_0 : w21.cell? ⟨gb685, 0, none⟩ = some (.bool t674) := (blk_cell BK685.out 0).trans rfl; have hcz24_1 : w21.cell? ⟨gb685, 1, none⟩ = some (.int .i64 t675) := (blk_cell BK685.out 1).trans rfl; have hcz24_2 : w21.cell? ⟨gb685, 2, none⟩ = some (.bool t676) := (blk_cell BK685.out 2).trans rfl; have hcz24_3 : w21.cell? ⟨gb685, 3, none⟩ = some (.int .u32 t677) := (blk_cell BK685.out 3).trans rfl; have hcz24_4 : w21.cell? ⟨gb685, 4, none⟩ = some (.int .i64 t678) := (blk_cell BK685.out 4).trans rfl; have hcz24_5 : w21.cell? ⟨gb685, 5, none⟩ = some (.bool t679) := (blk_cell BK685.out 5).trans rfl; have hcz24_6 : w21.cell? ⟨gb685, 6, none⟩ = some (.bool t680) := (blk_cell BK685.out 6).trans rfl; have hcz24_7 : w21.cell? ⟨gb685, 7, none⟩ = some (.int .u32 t681) := (blk_cell BK685.out 7).trans rfl; have hcz24_8 : w21.cell? ⟨gb685, 8, none⟩ = some (.bool t682) := (blk_cell BK685.out 8).trans rfl; have hcz24_9 : w21.cell? ⟨gb685, 9, none⟩ = some (.bool t683) := (blk_cell BK685.out 9).trans rfl; have hfz24_0 := blk_frozen BK685.out 0; have hfz24_1 := blk_frozen BK685.out 1; have hfz24_2 := blk_frozen BK685.out 2; have hfz24_3 := blk_frozen BK685.out 3; have hfz24_4 := blk_frozen BK685.out 4; have hfz24_5 := blk_frozen BK685.out 5; have hfz24_6 := blk_frozen BK685.out 6; have hfz24_7 := blk_frozen BK685.out 7; have hfz24_8 := blk_frozen BK685.out 8; have hfz24_9 := blk_frozen BK685.out 9) | (go_at_call 34; (with_reducible refine (terms_Login.calls kj1 _ _ l0 t698 _ ?side1 ?side2 A15.out).mono ?_); (case side1 => exact Kd.C_below HR0.out (by repeat (first | (with_reducible first | exact HB.out | apply below_alloc | apply pw_below_drewN | apply below_drew1 | refine below_set ?_ GE685.out | refine below_set ?_ GE697.out) | exact HB.out))); (case side2 => exact HC0.out); rintro e w25 ⟨rfl, hb⟩; have n0_ := Aside0.mk (blk_below (g := gb685) (o := .cells #[.bool t674, .int .i64 t675, .bool t676, .int .u32 t677, .int .i64 t678, .bool t679, .bool t680, .int .u32 t681, .bool t682, .bool t683] 61 (0, 0)) (by (with_reducible repeat (first | refine blk_drewN ?_ _ | refine blk_drew ?_ | refine blk_alloc ?_ _)); refine blk_far ?_ NB685_697.out _; (with_reducible repeat (first | refine blk_drewN ?_ _ | refine blk_drew ?_ | refine blk_alloc ?_ _)); refine blk_far ?_ NB685_697.out _; (with_reducible repeat (first | refine blk_drewN ?_ _ | refine blk_drew ?_ | refine blk_alloc ?_ _)); refine blk_far ?_ NB685_697.out _; (with_reducible repeat (first | refine blk_drewN ?_ _ | refine blk_drew ?_ | refine blk_alloc ?_ _)); refine blk_far ?_ NB685_697.out _; (with_reducible repeat (first | refine blk_drewN ?_ _ | refine blk_drew ?_ | refine blk_alloc ?_ _)); refine blk_far ?_ NB685_697.out _; (with_reducible repeat (first | refine blk_drewN ?_ _ | refine blk_drew ?_ | refine blk_alloc ?_ _)); refine blk_far ?_ NB685_697.out _; (with_reducible repeat (first | refine blk_drewN ?_ _ | refine blk_drew ?_ | refine blk_alloc ?_ _)); refine blk_far ?_ NB685_697.out _; (with_reducible repeat (first | refine blk_drewN ?_ _ | refine blk_drew ?_ | refine blk_alloc ?_ _)); refine blk_far ?_ NB685_697.out _; (with_reducible repeat (first | refine blk_drewN ?_ _ | refine blk_drew ?_ | refine blk_alloc ?_ _)); refine blk_far ?_ NB685_697.out _; (with_reducible repeat (first | refine blk_drewN ?_ _ | refine blk_drew ?_ | refine blk_alloc ?_ _)); refine blk_far ?_ NB685_697.out _; (with_reducible repeat (first | refine blk_drewN ?_ _ | refine blk_drew ?_ | refine blk_alloc ?_ _)); exact BK685.out) hb); have n1_ := Aside0.mk (blk_below (g := gb697) (o := .cells #[.bool t686, .int .i64 t687, .bool t688, .int .u32 t689, .int .i64 t690, .bool t691, .bool t692, .int .u32 t693, .bool t694, .bool t695] 61 (0, 0)) (by (with_reducible repeat (first | refine blk_drewN ?_ _ | refine blk_drew ?_ | refine blk_alloc ?_ _)); refine blk_put (cs := #[.bool t686, .int .i64 t687, .bool t688, .int .u32 t689, .int .i64 t690, .bool t691, .bool t692, .int .u32 t693, .bool t694, .bool false]) ?_ 9 _ rfl; (with_reducible repeat (first | refine blk_drewN ?_ _ | refine blk_drew ?_ | refine blk_alloc ?_ _)); refine blk_put (cs := #[.bool t686, .int .i64 t687, .bool t688, .int .u32 t689, .int .i64 t690, .bool t691, .bool t692, .int .u32 t693, .bool false, .bool false]) ?_ 8 _ rfl; (with_reducible repeat (first | refine blk_drewN ?_ _ | refine blk_drew ?_ | refine blk_alloc ?_ _)); refine blk_put (cs := #[.bool t686, .int .i64 t687, .bool t688, .int .u32 t689, .int .i64 t690, .bool t691, .bool t692, .int .u32 0, .bool false, .bool false]) ?_ 7 _ rfl; (with_reducible repeat (first | refine blk_drewN ?_ _ | refine blk_drew ?_ | refine blk_alloc ?_ _)); refine blk_put (cs := #[.bool t686, .int .i64 t687, .bool t688, .int .u32 t689, .int .i64 t690, .bool t691, .bool false, .int .u32 0, .bool false, .bool false]) ?_ 6 _ rfl; (with_reducible repeat (first | refine blk_drewN ?_ _ | refine blk_drew ?_ | refine blk_alloc ?_ _)); refine blk_put (cs := #[.bool t686, .int .i64 t687, .bool t688, .int .u32 t689, .int .i64 t690, .bool false, .bool false, .int .u32 0, .bool false, .bool false]) ?_ 5 _ rfl; (with_reducible repeat (first | refine blk_drewN ?_ _ | refine blk_drew ?_ | refine blk_alloc ?_ _)); refine blk_put (cs := #[.bool t686, .int .i64 t687, .bool t688, .int .u32 t689, .int .i64 0, .bool false, .bool false, .int .u32 0, .bool false, .bool false]) ?_ 4 _ rfl; (with_reducible repeat (first | refine blk_drewN ?_ _ | refine blk_drew ?_ | refine blk_alloc ?_ _)); refine blk_put (cs := #[.bool t686, .int .i64 t687, .bool t688, .int .u32 0, .int .i64 0, .bool false, .bool false, .int .u32 0, .bool false, .bool false]) ?_ 3 _ rfl; (with_reducible repeat (first | refine blk_drewN ?_ _ | refine blk_drew ?_ | refine blk_alloc ?_ _)); refine blk_put (cs := #[.bool t686, .int .i64 t687, .bool false, .int .u32 0, .int .i64 0, .bool false, .bool false, .int .u32 0, .bool false, .bool false]) ?_ 2 _ rfl; (with_reducible repeat (first | refine blk_drewN ?_ _ | refine blk_drew ?_ | refine blk_alloc ?_ _)); refine blk_put (cs := #[.bool t686, .int .i64 0, .bool false, .int .u32 0, .int .i64 0, .bool false, .bool false, .int .u32 0, .bool false, .bool false]) ?_ 1 _ rfl; (with_reducible repeat (first | refine blk_drewN ?_ _ | refine blk_drew ?_ | refine blk_alloc ?_ _)); refine blk_put (cs := #[.bool false, .int .i64 0, .bool false, .int .u32 0, .int .i64 0, .bool false, .bool false, .int .u32 0, .bool false, .bool false]) ?_ 0 _ rfl; (with_reducible repeat (first | refine blk_drewN ?_ _ | refine blk_drew ?_ | refine blk_alloc ?_ _)); exact BK697.out) hb); have n2_ := Aside0.mk (below_step (by repeat (first | (with_reducible first | exact HB.out | apply below_alloc | apply pw_below_drewN | apply below_drew1 | refine below_set ?_ GE685.out | refine below_set ?_ GE697.out) | exact HB.out)) hb); clear BK685; clear BK697; clear HB; have BK685 := n0_; have BK697 := n1_; have HB := n2_; clear n0_ n1_ n2_; (try clear hb); (try clear hb2); (try clear hk); (try clear hi)) | (go_at_call 35; (with_reducible refine (umpireref14_Login.calls kj1 _ _ l0 t699 _ ?side1 ?side2 A16.out).mono ?_); (case side1 => repeat (first | exact (Kd.C_below HR0.out HB.out) | (with_reducible refine Kd.C_alloc ?_ _) | (with_reducible refine Kd.C_drewN ?_ _) | (with_reducible refine Kd.C_drew ?_))); (case side2 => exact HC0.out); rintro e w26 ⟨rfl, hb⟩; have n0_ := Aside0.mk (blk_below (g := gb685) (o := .cells #[.bool t674, .int .i64 t675, .bool t676, .int .u32 t677, .int .i64 t678, .bool t679, .bool t680, .int .u32 t681, .bool t682, .bool t683] 61 (0, 0)) (by (with_reducible repeat (first | refine blk_drewN ?_ _ | refine blk_drew ?_ | refine blk_alloc ?_ _)); exact BK685.out) hb); have n1_ := Aside0.mk (blk_below (g := gb697) (o := .cells #[.bool t686, .int .i64 t687, .bool t688, .int .u32 t689, .int .i64 t690, .bool t691, .bool t692, .int .u32 t693, .bool t694, .bool t695] 61 (0, 0)) (by (with_reducible repeat (first | refine blk_drewN ?_ _ | refine blk_drew ?_ | refine blk_alloc ?_ _)); exact BK697.out) hb); have n2_ := Aside0.mk (below_step (by repeat (first | (with_reducible first | exact HB.out | apply below_alloc | apply pw_below_drewN | apply below_drew1 | refine below_set ?_ GE685.out | refine below_set ?_ GE697.out) | exact HB.out)) hb); clear BK685; clear BK697; clear HB; have BK685 := n0_; have BK697 := n1_; have HB := n2_; clear n0_ n1_ n2_; (try clear hb); (try clear hb2); (try clear hk); (try clear hi)))
            go_ret
            exact ⟨by first | rfl | (simp [errW_none, errW_some] <;> rfl) | (simp [*, errW_none, errW_some] <;> rfl), by repeat (first | (with_reducible first | exact HB.out | apply below_alloc | apply pw_below_drewN | apply below_drew1 | refine below_set ?_ GE685.out | refine below_set ?_ GE697.out) | exact HB.out)⟩
          · rw [if_neg c14] at H
            exact absurd H (by simp)
        · rw [if_neg c13] at H
          exact absurd H (by simp)

end Go.Proofs.Ytnjimecjpnjojaa.Print
