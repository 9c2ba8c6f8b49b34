-- laid by this session's own program (wip/mkprint.sh) for this claim
import Derived.Test.Ytnjimecjpnjojaa0
import Derived.Test.YtnjimecjpnjojaaF30
import Derived.Test.YtnjimecjpnjojaaF55
namespace Go.Proofs.Ytnjimecjpnjojaa.Print
open Go.RowKit Go.Proofs.YtnjimecjpnjojaaW.PrintWords Go.Proofs.YtnjimecjpnjojaaW.PrintLast Go.Proofs.YtnjimecjpnjojaaW.PrintMore
attribute [local go_sem] max2_int min2_int max_two min_two max_three min_three max_four min_four   -- for this text's walks alone
set_option linter.unusedVariables false
set_option linter.unusedSimpArgs false

/-! ### umpireref14_Login: function 35 -/
def umpireref14_Login.l0 : Nat → List (S55) → Int → Option (Int)
  | 0, _, _ => none
  | k + 1, x0, x3 => if x3 < (x0.length : Int) then (if 0 ≤ x3 then (if ((rd_T55 x0 x3).f0) = 3 then ((umpireref14_Right.f k ((rd_T55 x0 x3).f0) ((rd_T55 x0 x3).f1)).bind fun t668 => (if t668 = true then ((umpireref14_asks.f ((rd_T55 x0 x3).f1)).bind fun t670 => (some t670)) else (umpireref14_Login.l0 k x0 (wrap64 (x3 + 1))))) else (umpireref14_Login.l0 k x0 (wrap64 (x3 + 1)))) else (none)) else (some 0)
def umpireref14_Login.f (k : Nat) (l0 : List (S55)) : Option (Int) := umpireref14_Login.l0 k l0 0
theorem umpireref14_Login.mono_l : ∀ k, (∀ y0 y1, LeO (umpireref14_Login.l0 k y0 y1) (umpireref14_Login.l0 (k + 1) y0 y1))
  | 0 => fun _ _ r h => by simp [umpireref14_Login.l0] at h
  | k + 1 => by
    have ih0 := umpireref14_Login.mono_l k
    · intro y0 y1
      unfold umpireref14_Login.l0
      repeat' first
      | (with_reducible exact ih0 _ _)
      | (with_reducible exact umpireref14_Right.mono _ _ _)
      | (with_reducible exact LeO.refl _)
      | (with_reducible exact LeO.none _)
      | (with_reducible refine LeO.ite ?_ ?_)
      | (with_reducible refine LeO.bind ?_ (fun _ => ?_))
      | exact ih0 _ _
      | exact umpireref14_Right.mono _ _ _
      | exact LeO.none _
      | refine LeO.ite ?_ ?_
      | refine LeO.bind ?_ (fun _ => ?_)
theorem umpireref14_Login.mono : ∀ a0 k, LeO (umpireref14_Login.f k a0) (umpireref14_Login.f (k + 1) a0) := by
  intro a0 k
  have ih0 := umpireref14_Login.mono_l k
  unfold umpireref14_Login.f
  repeat' first
      | (with_reducible exact ih0 _ _)
      | (with_reducible exact umpireref14_Right.mono _ _ _)
      | (with_reducible exact LeO.refl _)
      | (with_reducible exact LeO.none _)
      | (with_reducible refine LeO.ite ?_ ?_)
      | (with_reducible refine LeO.bind ?_ (fun _ => ?_))
      | exact ih0 _ _
      | exact umpireref14_Right.mono _ _ _
      | exact LeO.none _
      | refine LeO.ite ?_ ?_
      | refine LeO.bind ?_ (fun _ => ?_)
set_option maxHeartbeats 8000000 in
set_option maxRecDepth 100000 in
theorem umpireref14_Login.calls (k : Nat) (A0 : Option Addr) (c0 : Nat) (l0 : List (S55)) (r : Int) (w : World) (hr0 : Kd.C k55 w A0 l0.length l0) (hc0 : l0.length ≤ c0) (h : umpireref14_Login.f k l0 = some r) :
    Calls Try.prog 35 #[.slice A0 l0.length c0] w fun e w' => e = .returned (.int .i64 r) ∧ Below w.heap.size w w' := by
  have hu55 := Try.underlying55
  have HR0 := Aside0.mk hr0
  have HC0 := Aside0.mk hc0
  clear hr0 hc0
  have HB := Aside0.mk (Below.refl w.heap.size w)
  have H : (umpireref14_Login.l0 k l0 0) = some r := h
  clear h
  have H' := Aside0.mk H
  clear H
  go_enter Try.func35, Try.ntmps35
  go_wp2
  go_loopg [3] k (fun kq v3 w' => ∃ (x3_1 : Int), v3 = .int .i64 x3_1 ∧ Aside0 (umpireref14_Login.l0 kq l0 x3_1 = some r) ∧ Aside0 (kq ≤ k) ∧ Aside0 (Below w.heap.size w w'))
  case atStart => exact ⟨(0), (by first | rfl | (simp; done) | (simp [*]; done)), H', ⟨Nat.le_refl _⟩, ⟨by repeat (first | (with_reducible first | exact HB.out | apply below_alloc | apply pw_below_drewN | apply below_drew1) | exact HB.out)⟩⟩
  case round =>
    clear H'
    obtain ⟨x3_1, rfl, HA, HK1, HB⟩ := hrel
    cases gk with
    | zero => exact absurd HA.out (by simp [umpireref14_Login.l0])
    | succ k1 =>
      have H := HA.out
      clear HA
      simp only [umpireref14_Login.l0] at H
      by_cases c2 : x3_1 < (l0.length : Int)
      · rw [if_pos c2] at H
        have c2b0 : decide (x3_1 < (l0.length : Int)) = true := decide_eq_true c2
        clear c2
        by_cases c3 : 0 ≤ x3_1
        · rw [if_pos c3] at H
          have c3b0 : decide (0 ≤ x3_1) = true := decide_eq_true c3
          clear c3
          by_cases c4 : ((rd_T55 l0 x3_1).f0) = 3
          · rw [if_pos c4] at H
            have c4b0 : (((rd_T55 l0 x3_1).f0) == 3) = true := beq_iff_eq.mpr c4
            have c4b1 : (((rd_T55 l0 x3_1).f0) != 3) = false := bne_eq_false_iff_eq.mpr c4
            clear c4
            replace H := Option.bind_eq_some_iff.mp H
            obtain ⟨t668, A50, H⟩ := H
            replace H : (if t668 = true then ((umpireref14_asks.f ((rd_T55 l0 x3_1).f1)).bind fun t670 => (some t670)) else (umpireref14_Login.l0 k1 l0 (wrap64 (x3_1 + 1)))) = some r := H
            have A5 := Aside0.mk A50
            clear A50
            by_cases c6 : t668 = true
            · subst c6
              have H1 : ((umpireref14_asks.f ((rd_T55 l0 x3_1).f1)).bind fun t670 => (some t670)) = some r := by rw [if_pos rfl] at H; exact H
              clear H
              have H := H1
              clear H1
              replace H := Option.bind_eq_some_iff.mp H
              obtain ⟨t670, A70, H⟩ := H
              replace H : (some t670) = some r := H
              have A7 := Aside0.mk A70
              clear A70
              obtain rfl := Option.some.inj H
              have p666 : 0 ≤ (x3_1 : Int) := of_decide_eq_true (by first | (with_reducible assumption) | assumption)
              have q666 : x3_1 < (l0.length : Int) := of_decide_eq_true (by first | (with_reducible assumption) | assumption)
              obtain ⟨ad666, A666_1, c666_1, e666, hx666_0, hx666_1, hl666_1, hi666_1⟩ := at_T55 HR0.out x3_1 p666 q666
              cases e666
              replace hx666_0 := (HB.out.cell (World.block_lt_of_cell? w _ hx666_0)).trans hx666_0
              replace hx666_1 := (HB.out.cell (World.block_lt_of_cell? w _ hx666_1)).trans hx666_1
              have HR666_1 := Aside0.mk hi666_1
              have HC666_1 := Aside0.mk hl666_1
              clear hi666_1 hl666_1
              replace p666 := eq_true p666
              replace q666 := eq_true q666
              have p667 : 0 ≤ (x3_1 : Int) := of_decide_eq_true (by first | (with_reducible assumption) | assumption)
              have q667 : x3_1 < (l0.length : Int) := of_decide_eq_true (by first | (with_reducible assumption) | assumption)
              obtain ⟨ad667, A667_1, c667_1, e667, hx667_0, hx667_1, hl667_1, hi667_1⟩ := at_T55 HR0.out x3_1 p667 q667
              obtain rfl : ad666 = ad667 := (by injection e667)
              replace hx667_0 := (HB.out.cell (World.block_lt_of_cell? w _ hx667_0)).trans hx667_0
              replace hx667_1 := (HB.out.cell (World.block_lt_of_cell? w _ hx667_1)).trans hx667_1
              have HR667_1 := Aside0.mk hi667_1
              have HC667_1 := Aside0.mk hl667_1
              clear hi667_1 hl667_1
              replace p667 := eq_true p667
              replace q667 := eq_true q667
              have ea_ := Option.some.inj (hx666_1.symm.trans hx667_1)
              injection ea_ with ea_ en_ ec_
              subst ea_
              subst ec_
              clear en_
              go_wp2_with (first | (go_at_call 30; (with_reducible refine (umpireref14_Right.calls k1 ((rd_T55 l0 x3_1).f0) _ _ ((rd_T55 l0 x3_1).f1) true _ ?side1 ?side2 A5.out).mono ?_); (case side1 => repeat (first | exact (Kd.C_below HR667_1.out HB.out) | (with_reducible refine Kd.C_alloc ?_ _) | (with_reducible refine Kd.C_drewN ?_ _) | (with_reducible refine Kd.C_drew ?_))); (case side2 => exact HC667_1.out); rintro e w8 ⟨rfl, hb⟩; have n0_ := Aside0.mk (below_step (by repeat (first | (with_reducible first | exact HB.out | apply below_alloc | apply pw_below_drewN | apply below_drew1) | exact HB.out)) hb); clear HB; have HB := n0_; clear n0_; (try clear hb); (try clear hb2); (try clear hk); (try clear hi); have p669 : 0 ≤ (x3_1 : Int) := of_decide_eq_true (by first | (with_reducible assumption) | assumption); have q669 : x3_1 < (l0.length : Int) := of_decide_eq_true (by first | (with_reducible assumption) | assumption); obtain ⟨ad669, A669_1, c669_1, e669, hx669_0, hx669_1, hl669_1, hi669_1⟩ := at_T55 HR0.out x3_1 p669 q669; obtain rfl : ad666 = ad669 := (by injection e669); replace hx669_0 := (HB.out.cell (World.block_lt_of_cell? w _ hx669_0)).trans hx669_0; replace hx669_1 := (HB.out.cell (World.block_lt_of_cell? w _ hx669_1)).trans hx669_1; have HR669_1 := Aside0.mk hi669_1; have HC669_1 := Aside0.mk hl669_1; clear hi669_1 hl669_1; replace p669 := eq_true p669; replace q669 := eq_true q669) | ((with_reducible refine gate_callee (f := 55) rfl ?_); refine goesL_ (some 28) rfl rfl Try.func55 (by kernel_rfl) rfl #[.slice A669_1 ((rd_T55 l0 x3_1).f1).length c669_1] rfl (by (try simp only [List.map_toArray, List.map_cons, List.map_nil]); first | done | rfl | (simp only [List.length_drop, List.length_take]; rfl)) ?_; (with_reducible refine (umpireref14_asks.calls _ _ ((rd_T55 l0 x3_1).f1) t670 _ ?side1 ?side2 A7.out).mono ?_); (case side1 => repeat (first | exact (Kd.C_below HR669_1.out HB.out) | (with_reducible refine Kd.C_alloc ?_ _) | (with_reducible refine Kd.C_drewN ?_ _) | (with_reducible refine Kd.C_drew ?_))); (case side2 => exact HC669_1.out); rintro e w' ⟨rfl, ⟨nd, rfl⟩⟩; refine ⟨_, rfl, ?_⟩))
              go_ret
              exact ⟨by first | rfl | (simp [errW_none, errW_some] <;> rfl) | (simp [*, errW_none, errW_some] <;> rfl), by repeat (first | (with_reducible first | exact HB.out | apply below_alloc | apply pw_below_drewN | apply below_drew1) | exact HB.out)⟩
            · replace c6 := Bool.eq_false_iff.mpr c6
              subst c6
              have H1 : (umpireref14_Login.l0 k1 l0 (wrap64 (x3_1 + 1))) = some r := by rw [if_neg (show ¬ (false = true) by decide)] at H; exact H
              clear H
              have H := H1
              clear H1
              have H' := Aside0.mk H
              clear H
              have p666 : 0 ≤ (x3_1 : Int) := of_decide_eq_true (by first | (with_reducible assumption) | assumption)
              have q666 : x3_1 < (l0.length : Int) := of_decide_eq_true (by first | (with_reducible assumption) | assumption)
              obtain ⟨ad666, A666_1, c666_1, e666, hx666_0, hx666_1, hl666_1, hi666_1⟩ := at_T55 HR0.out x3_1 p666 q666
              cases e666
              replace hx666_0 := (HB.out.cell (World.block_lt_of_cell? w _ hx666_0)).trans hx666_0
              replace hx666_1 := (HB.out.cell (World.block_lt_of_cell? w _ hx666_1)).trans hx666_1
              have HR666_1 := Aside0.mk hi666_1
              have HC666_1 := Aside0.mk hl666_1
              clear hi666_1 hl666_1
              replace p666 := eq_true p666
              replace q666 := eq_true q666
              have p667 : 0 ≤ (x3_1 : Int) := of_decide_eq_true (by first | (with_reducible assumption) | assumption)
              have q667 : x3_1 < (l0.length : Int) := of_decide_eq_true (by first | (with_reducible assumption) | assumption)
              obtain ⟨ad667, A667_1, c667_1, e667, hx667_0, hx667_1, hl667_1, hi667_1⟩ := at_T55 HR0.out x3_1 p667 q667
              obtain rfl : ad666 = ad667 := (by injection e667)
              replace hx667_0 := (HB.out.cell (World.block_lt_of_cell? w _ hx667_0)).trans hx667_0
              replace hx667_1 := (HB.out.cell (World.block_lt_of_cell? w _ hx667_1)).trans hx667_1
              have HR667_1 := Aside0.mk hi667_1
              have HC667_1 := Aside0.mk hl667_1
              clear hi667_1 hl667_1
              replace p667 := eq_true p667
              replace q667 := eq_true q667
              have ea_ := Option.some.inj (hx666_1.symm.trans hx667_1)
              injection ea_ with ea_ en_ ec_
              subst ea_
              subst ec_
              clear en_
              go_wp2_with (first | (go_at_call 30; (with_reducible refine (umpireref14_Right.calls k1 ((rd_T55 l0 x3_1).f0) _ _ ((rd_T55 l0 x3_1).f1) false _ ?side1 ?side2 A5.out).mono ?_); (case side1 => repeat (first | exact (Kd.C_below HR667_1.out HB.out) | (with_reducible refine Kd.C_alloc ?_ _) | (with_reducible refine Kd.C_drewN ?_ _) | (with_reducible refine Kd.C_drew ?_))); (case side2 => exact HC667_1.out); rintro e w9 ⟨rfl, hb⟩; have n0_ := Aside0.mk (below_step (by repeat (first | (with_reducible first | exact HB.out | apply below_alloc | apply pw_below_drewN | apply below_drew1) | exact HB.out)) hb); clear HB; have HB := n0_; clear n0_; (try clear hb); (try clear hb2); (try clear hk); (try clear hi)))
              go_roundg k1
              case measure => have := HK1.out; omega
              case rel => exact ⟨(wrap64 (x3_1 + 1)), (by first | rfl | (simp; done) | (simp [*]; done)), H', ⟨by have := HK1.out; omega⟩, ⟨by repeat (first | (with_reducible first | exact HB.out | apply below_alloc | apply pw_below_drewN | apply below_drew1) | exact HB.out)⟩⟩
          · rw [if_neg c4] at H
            have c4b0 : (((rd_T55 l0 x3_1).f0) == 3) = false := beq_eq_false_iff_ne.mpr c4
            have c4b1 : (((rd_T55 l0 x3_1).f0) != 3) = true := bne_iff_ne.mpr c4
            have H' := Aside0.mk H
            clear H
            have p666 : 0 ≤ (x3_1 : Int) := of_decide_eq_true (by first | (with_reducible assumption) | assumption)
            have q666 : x3_1 < (l0.length : Int) := of_decide_eq_true (by first | (with_reducible assumption) | assumption)
            obtain ⟨ad666, A666_1, c666_1, e666, hx666_0, hx666_1, hl666_1, hi666_1⟩ := at_T55 HR0.out x3_1 p666 q666
            cases e666
            replace hx666_0 := (HB.out.cell (World.block_lt_of_cell? w _ hx666_0)).trans hx666_0
            replace hx666_1 := (HB.out.cell (World.block_lt_of_cell? w _ hx666_1)).trans hx666_1
            have HR666_1 := Aside0.mk hi666_1
            have HC666_1 := Aside0.mk hl666_1
            clear hi666_1 hl666_1
            replace p666 := eq_true p666
            replace q666 := eq_true q666
            go_wp2
            go_roundg k1
            case measure => have := HK1.out; omega
            case rel => exact ⟨(wrap64 (x3_1 + 1)), (by first | rfl | (simp; done) | (simp [*]; done)), H', ⟨by have := HK1.out; omega⟩, ⟨by repeat (first | (with_reducible first | exact HB.out | apply below_alloc | apply pw_below_drewN | apply below_drew1) | exact HB.out)⟩⟩
        · rw [if_neg c3] at H
          exact absurd H (by simp)
      · rw [if_neg c2] at H
        have c2b0 : decide (x3_1 < (l0.length : Int)) = false := decide_eq_false c2
        clear c2
        obtain rfl := Option.some.inj H
        go_wp2
        go_ret
        exact ⟨by first | rfl | (simp [errW_none, errW_some] <;> rfl) | (simp [*, errW_none, errW_some] <;> rfl), by repeat (first | (with_reducible first | exact HB.out | apply below_alloc | apply pw_below_drewN | apply below_drew1) | exact HB.out)⟩

end Go.Proofs.Ytnjimecjpnjojaa.Print
