-- laid by this session's own program (wip/mkprint.sh) for this claim
import Derived.Test.Ytjpfhipgffmgjaa0
namespace Go.Proofs.Ytjpfhipgffmgjaa.Print
open Go.RowKit Go.Proofs.YtjpfhipgffmgjaaW.PrintWords Go.Proofs.YtjpfhipgffmgjaaW.PrintLast Go.Proofs.YtjpfhipgffmgjaaW.PrintMore
attribute [local go_sem] max2_int min2_int max_two min_two max_three min_three max_four min_four   -- for this text's walks alone
set_option linter.unusedVariables false
set_option linter.unusedSimpArgs false

/-! ### head_begin: function 33 -/
def head_begin.f (l0 : List Int) : Option (Int × Int) := if (l0.length : Int) = 0 then (some (0, 2)) else (if 0 < (l0.length : Int) then (if (rd l0 0) = 255 then (if (l0.length : Int) = 1 then (some (0, 2)) else (if 1 < (l0.length : Int) then (if (rd l0 1) = 3 then (some (2, 0)) else (some (0, 3))) else (none))) else (some (0, 0))) else (none))
set_option maxHeartbeats 8000000 in
set_option maxRecDepth 100000 in
theorem head_begin.calls (A0 : Option Addr) (c0 : Nat) (l0 : List Int) (r1 : Int) (r2 : Int) (w : World) (hr0 : Kd.C (Kd.int .u8) w A0 l0.length l0) (hc0 : l0.length ≤ c0) (h : head_begin.f l0 = some (r1, r2)) :
    Calls Try.prog 33 #[.slice A0 l0.length c0] w fun e w' => e = .returned (.tuple #[.int .i64 r1, .int .i64 r2]) ∧ Drawn0 w w' := by
  have HR0 := Aside0.mk hr0
  have HC0 := Aside0.mk hc0
  clear hr0 hc0
  have H : (if (l0.length : Int) = 0 then (some (0, 2)) else (if 0 < (l0.length : Int) then (if (rd l0 0) = 255 then (if (l0.length : Int) = 1 then (some (0, 2)) else (if 1 < (l0.length : Int) then (if (rd l0 1) = 3 then (some (2, 0)) else (some (0, 3))) else (none))) else (some (0, 0))) else (none))) = some (r1, r2) := h
  clear h
  by_cases c2 : (l0.length : Int) = 0
  · rw [if_pos c2] at H
    have c2b0 : ((l0.length : Int) == 0) = true := beq_iff_eq.mpr c2
    have c2b1 : ((l0.length : Int) != 0) = false := bne_eq_false_iff_eq.mpr c2
    clear c2
    simp only [Option.some.injEq, Prod.mk.injEq] at H
    obtain ⟨rfl, rfl⟩ := H
    go_enter Try.func33, Try.ntmps33
    go_wp2
    go_ret2
    exact ⟨by first | rfl | (simp; done) | (simp [*]; done), by repeat (first | exact Drawn0.refl _ | apply Drawn0.step)⟩
  · rw [if_neg c2] at H
    have c2b0 : ((l0.length : Int) == 0) = false := beq_eq_false_iff_ne.mpr c2
    have c2b1 : ((l0.length : Int) != 0) = true := bne_iff_ne.mpr c2
    have c2b2 : ¬ (l0 = []) := fun h_ => c2 (by rw [h_]; rfl)
    by_cases c3 : 0 < (l0.length : Int)
    · rw [if_pos c3] at H
      have c3b0 : decide (0 < (l0.length : Int)) = true := decide_eq_true c3
      have c3b1 : decide (0 < l0.length) = true := decide_eq_true (by omega)
      clear c3
      by_cases c4 : (rd l0 0) = 255
      · rw [if_pos c4] at H
        have c4b0 : ((rd l0 0) == 255) = true := beq_iff_eq.mpr c4
        have c4b1 : ((rd l0 0) != 255) = false := bne_eq_false_iff_eq.mpr c4
        clear c4
        by_cases c5 : (l0.length : Int) = 1
        · rw [if_pos c5] at H
          have c5b0 : ((l0.length : Int) == 1) = true := beq_iff_eq.mpr c5
          have c5b1 : ((l0.length : Int) != 1) = false := bne_eq_false_iff_eq.mpr c5
          clear c5
          simp only [Option.some.injEq, Prod.mk.injEq] at H
          obtain ⟨rfl, rfl⟩ := H
          have p322 : 0 ≤ (0 : Int) := (by omega)
          have q322 : 0 < (l0.length : Int) := of_decide_eq_true (by first | (with_reducible assumption) | assumption)
          obtain ⟨ad322, e322, hx322_0⟩ := Kd.at_int HR0.out 0 p322 q322
          cases e322
          have qi322 : (0 < l0.length) = True := eq_true (by omega)
          (try rw [show ((0 : Int)).toNat = 0 from rfl] at hx322_0)
          (try rw [Addr.add_zero'] at hx322_0)
          replace p322 := eq_true p322
          replace q322 := eq_true q322
          go_enter Try.func33, Try.ntmps33
          go_wp2
          go_ret2
          exact ⟨by first | rfl | (simp; done) | (simp [*]; done), by repeat (first | exact Drawn0.refl _ | apply Drawn0.step)⟩
        · rw [if_neg c5] at H
          have c5b0 : ((l0.length : Int) == 1) = false := beq_eq_false_iff_ne.mpr c5
          have c5b1 : ((l0.length : Int) != 1) = true := bne_iff_ne.mpr c5
          by_cases c6 : 1 < (l0.length : Int)
          · rw [if_pos c6] at H
            have c6b0 : decide (1 < (l0.length : Int)) = true := decide_eq_true c6
            have c6b1 : decide (1 < l0.length) = true := decide_eq_true (by omega)
            clear c6
            by_cases c7 : (rd l0 1) = 3
            · rw [if_pos c7] at H
              have c7b0 : ((rd l0 1) == 3) = true := beq_iff_eq.mpr c7
              have c7b1 : ((rd l0 1) != 3) = false := bne_eq_false_iff_eq.mpr c7
              clear c7
              simp only [Option.some.injEq, Prod.mk.injEq] at H
              obtain ⟨rfl, rfl⟩ := H
              have p322 : 0 ≤ (0 : Int) := (by omega)
              have q322 : 0 < (l0.length : Int) := of_decide_eq_true (by first | (with_reducible assumption) | assumption)
              obtain ⟨ad322, e322, hx322_0⟩ := Kd.at_int HR0.out 0 p322 q322
              cases e322
              have qi322 : (0 < l0.length) = True := eq_true (by omega)
              (try rw [show ((0 : Int)).toNat = 0 from rfl] at hx322_0)
              (try rw [Addr.add_zero'] at hx322_0)
              replace p322 := eq_true p322
              replace q322 := eq_true q322
              have p323 : 0 ≤ (1 : Int) := (by omega)
              have q323 : 1 < (l0.length : Int) := of_decide_eq_true (by first | (with_reducible assumption) | assumption)
              obtain ⟨ad323, e323, hx323_0⟩ := Kd.at_int HR0.out 1 p323 q323
              obtain rfl : ad322 = ad323 := (by injection e323)
              (try simp only [show (1 : Int).toNat = 1 from rfl, Nat.reduceMul, Nat.reduceEqDiff, Go.Addr.add, ↓reduceIte] at hx323_0)
              have qi323 : (1 < l0.length) = True := eq_true (by omega)
              (try rw [show ((1 : Int)).toNat = 1 from rfl] at hx323_0)
              replace p323 := eq_true p323
              replace q323 := eq_true q323
              go_enter Try.func33, Try.ntmps33
              go_wp2
              go_ret2
              exact ⟨by first | rfl | (simp; done) | (simp [*]; done), by repeat (first | exact Drawn0.refl _ | apply Drawn0.step)⟩
            · rw [if_neg c7] at H
              have c7b0 : ((rd l0 1) == 3) = false := beq_eq_false_iff_ne.mpr c7
              have c7b1 : ((rd l0 1) != 3) = true := bne_iff_ne.mpr c7
              simp only [Option.some.injEq, Prod.mk.injEq] at H
              obtain ⟨rfl, rfl⟩ := H
              have p322 : 0 ≤ (0 : Int) := (by omega)
              have q322 : 0 < (l0.length : Int) := of_decide_eq_true (by first | (with_reducible assumption) | assumption)
              obtain ⟨ad322, e322, hx322_0⟩ := Kd.at_int HR0.out 0 p322 q322
              cases e322
              have qi322 : (0 < l0.length) = True := eq_true (by omega)
              (try rw [show ((0 : Int)).toNat = 0 from rfl] at hx322_0)
              (try rw [Addr.add_zero'] at hx322_0)
              replace p322 := eq_true p322
              replace q322 := eq_true q322
              have p323 : 0 ≤ (1 : Int) := (by omega)
              have q323 : 1 < (l0.length : Int) := of_decide_eq_true (by first | (with_reducible assumption) | assumption)
              obtain ⟨ad323, e323, hx323_0⟩ := Kd.at_int HR0.out 1 p323 q323
              obtain rfl : ad322 = ad323 := (by injection e323)
              (try simp only [show (1 : Int).toNat = 1 from rfl, Nat.reduceMul, Nat.reduceEqDiff, Go.Addr.add, ↓reduceIte] at hx323_0)
              have qi323 : (1 < l0.length) = True := eq_true (by omega)
              (try rw [show ((1 : Int)).toNat = 1 from rfl] at hx323_0)
              replace p323 := eq_true p323
              replace q323 := eq_true q323
              go_enter Try.func33, Try.ntmps33
              go_wp2
              go_ret2
              exact ⟨by first | rfl | (simp; done) | (simp [*]; done), by repeat (first | exact Drawn0.refl _ | apply Drawn0.step)⟩
          · rw [if_neg c6] at H
            exact absurd H (by simp)
      · rw [if_neg c4] at H
        have c4b0 : ((rd l0 0) == 255) = false := beq_eq_false_iff_ne.mpr c4
        have c4b1 : ((rd l0 0) != 255) = true := bne_iff_ne.mpr c4
        simp only [Option.some.injEq, Prod.mk.injEq] at H
        obtain ⟨rfl, rfl⟩ := H
        have p322 : 0 ≤ (0 : Int) := (by omega)
        have q322 : 0 < (l0.length : Int) := of_decide_eq_true (by first | (with_reducible assumption) | assumption)
        obtain ⟨ad322, e322, hx322_0⟩ := Kd.at_int HR0.out 0 p322 q322
        cases e322
        have qi322 : (0 < l0.length) = True := eq_true (by omega)
        (try rw [show ((0 : Int)).toNat = 0 from rfl] at hx322_0)
        (try rw [Addr.add_zero'] at hx322_0)
        replace p322 := eq_true p322
        replace q322 := eq_true q322
        go_enter Try.func33, Try.ntmps33
        go_wp2
        go_ret2
        exact ⟨by first | rfl | (simp; done) | (simp [*]; done), by repeat (first | exact Drawn0.refl _ | apply Drawn0.step)⟩
    · rw [if_neg c3] at H
      exact absurd H (by simp)

end Go.Proofs.Ytjpfhipgffmgjaa.Print
