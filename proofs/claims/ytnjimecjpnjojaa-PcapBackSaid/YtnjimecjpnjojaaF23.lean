-- laid by this session's own program (wip/mkprint.sh) for this claim
import Derived.Test.Ytnjimecjpnjojaa0
namespace Go.Proofs.Ytnjimecjpnjojaa.Print
open Go.RowKit Go.Proofs.YtnjimecjpnjojaaW.PrintWords Go.Proofs.YtnjimecjpnjojaaW.PrintLast Go.Proofs.YtnjimecjpnjojaaW.PrintMore
attribute [local go_sem] max2_int min2_int max_two min_two max_three min_three max_four min_four   -- for this text's walks alone
set_option linter.unusedVariables false
set_option linter.unusedSimpArgs false

/-! ### umpireref09_Same: function 23 -/
def umpireref09_Same.l0 : Nat → List (S46) → List (S46) → Int → Option (Bool)
  | 0, _, _, _ => none
  | k + 1, x0, x1, x5 => if x5 < (x0.length : Int) then (if 0 ≤ x5 then (if x5 < (x1.length : Int) then (if ((rd_T46 x0 x5).f0) = ((rd_T46 x1 x5).f0) then (if ((rd_T46 x0 x5).f1) = ((rd_T46 x1 x5).f1) then (if ((rd_T46 x0 x5).f2) = ((rd_T46 x1 x5).f2) then (if (strOfNums ((rd_T46 x0 x5).f3)).toList = (strOfNums ((rd_T46 x1 x5).f3)).toList then (umpireref09_Same.l0 k x0 x1 (wrap64 (x5 + 1))) else (some false)) else (some false)) else (some false)) else (some false)) else (none)) else (none)) else (some true)
def umpireref09_Same.f (k : Nat) (l0 : List (S46)) (l1 : List (S46)) : Option (Bool) := if (l0.length : Int) = (l1.length : Int) then (umpireref09_Same.l0 k l0 l1 0) else (some false)
theorem umpireref09_Same.mono_l : ∀ k, (∀ y0 y1 y2, LeO (umpireref09_Same.l0 k y0 y1 y2) (umpireref09_Same.l0 (k + 1) y0 y1 y2))
  | 0 => fun _ _ _ r h => by simp [umpireref09_Same.l0] at h
  | k + 1 => by
    have ih0 := umpireref09_Same.mono_l k
    · intro y0 y1 y2
      unfold umpireref09_Same.l0
      repeat' first | (with_reducible exact ih0 _ _ _) | (with_reducible exact LeO.refl _) | (with_reducible refine LeO.ite ?_ ?_)
theorem umpireref09_Same.mono : ∀ a0 a1 k, LeO (umpireref09_Same.f k a0 a1) (umpireref09_Same.f (k + 1) a0 a1) := by
  intro a0 a1 k
  have ih0 := umpireref09_Same.mono_l k
  unfold umpireref09_Same.f
  repeat' first | (with_reducible exact ih0 _ _ _) | (with_reducible exact LeO.refl _) | (with_reducible refine LeO.ite ?_ ?_)
set_option maxHeartbeats 8000000 in
set_option maxRecDepth 100000 in
theorem umpireref09_Same.calls (k : Nat) (A0 : Option Addr) (c0 : Nat) (l0 : List (S46)) (A1 : Option Addr) (c1 : Nat) (l1 : List (S46)) (r : Bool) (w : World) (hr0 : Kd.C k46 w A0 l0.length l0) (hc0 : l0.length ≤ c0) (hr1 : Kd.C k46 w A1 l1.length l1) (hc1 : l1.length ≤ c1) (h : umpireref09_Same.f k l0 l1 = some r) :
    Calls Try.prog 23 #[.slice A0 l0.length c0, .slice A1 l1.length c1] w fun e w' => e = .returned (.bool r) ∧ Drawn0 w w' := by
  have HR0 := Aside0.mk hr0
  have HC0 := Aside0.mk hc0
  clear hr0 hc0
  have HR1 := Aside0.mk hr1
  have HC1 := Aside0.mk hc1
  clear hr1 hc1
  have H : (if (l0.length : Int) = (l1.length : Int) then (umpireref09_Same.l0 k l0 l1 0) else (some false)) = some r := h
  clear h
  by_cases c3 : (l0.length : Int) = (l1.length : Int)
  · rw [if_pos c3] at H
    have c3b0 : ((l0.length : Int) == (l1.length : Int)) = true := beq_iff_eq.mpr c3
    have c3b1 : ((l0.length : Int) != (l1.length : Int)) = false := bne_eq_false_iff_eq.mpr c3
    have c3b2 : (l0.length == l1.length) = true := by (simp at c3 ⊢; omega)
    clear c3
    have H' := Aside0.mk H
    clear H
    go_enter Try.func23, Try.ntmps23
    go_wp2
    go_loopg [5] k (fun kq v5 w' => ∃ (x5_1 : Int), v5 = .int .i64 x5_1 ∧ Aside0 (umpireref09_Same.l0 kq l0 l1 x5_1 = some r) ∧ Aside0 (kq ≤ k) ∧ Drawn0 w w')
    case atStart => exact ⟨(0), (by (rfl)), H', ⟨Nat.le_refl _⟩, by exact Drawn0.refl _⟩
    case round =>
      clear H'
      try clear c3b0
      try clear c3b1
      try clear c3b2
      obtain ⟨x5_1, rfl, HA, HK1, ⟨m1, rfl⟩⟩ := hrel
      cases gk with
      | zero => exact absurd HA.out (by simp [umpireref09_Same.l0])
      | succ k1 =>
        have H := HA.out
        clear HA
        simp only [umpireref09_Same.l0] at H
        by_cases c4 : x5_1 < (l0.length : Int)
        · rw [if_pos c4] at H
          have c4b0 : decide (x5_1 < (l0.length : Int)) = true := decide_eq_true c4
          clear c4
          by_cases c5 : 0 ≤ x5_1
          · rw [if_pos c5] at H
            have c5b0 : decide (0 ≤ x5_1) = true := decide_eq_true c5
            clear c5
            by_cases c6 : x5_1 < (l1.length : Int)
            · rw [if_pos c6] at H
              have c6b0 : decide (x5_1 < (l1.length : Int)) = true := decide_eq_true c6
              clear c6
              by_cases c7 : ((rd_T46 l0 x5_1).f0) = ((rd_T46 l1 x5_1).f0)
              · rw [if_pos c7] at H
                have c7b0 : (((rd_T46 l0 x5_1).f0) == ((rd_T46 l1 x5_1).f0)) = true := beq_iff_eq.mpr c7
                have c7b1 : (((rd_T46 l0 x5_1).f0) != ((rd_T46 l1 x5_1).f0)) = false := bne_eq_false_iff_eq.mpr c7
                clear c7
                by_cases c8 : ((rd_T46 l0 x5_1).f1) = ((rd_T46 l1 x5_1).f1)
                · rw [if_pos c8] at H
                  have c8b0 : (((rd_T46 l0 x5_1).f1) == ((rd_T46 l1 x5_1).f1)) = true := beq_iff_eq.mpr c8
                  have c8b1 : (((rd_T46 l0 x5_1).f1) != ((rd_T46 l1 x5_1).f1)) = false := bne_eq_false_iff_eq.mpr c8
                  clear c8
                  by_cases c9 : ((rd_T46 l0 x5_1).f2) = ((rd_T46 l1 x5_1).f2)
                  · rw [if_pos c9] at H
                    have c9b0 : (((rd_T46 l0 x5_1).f2) == ((rd_T46 l1 x5_1).f2)) = true := beq_iff_eq.mpr c9
                    have c9b1 : (((rd_T46 l0 x5_1).f2) != ((rd_T46 l1 x5_1).f2)) = false := bne_eq_false_iff_eq.mpr c9
                    clear c9
                    by_cases c10 : (strOfNums ((rd_T46 l0 x5_1).f3)).toList = (strOfNums ((rd_T46 l1 x5_1).f3)).toList
                    · rw [if_pos c10] at H
                      have c10b0 : ((strOfNums ((rd_T46 l0 x5_1).f3)).toList == (strOfNums ((rd_T46 l1 x5_1).f3)).toList) = true := beq_iff_eq.mpr c10
                      have c10b1 : ((strOfNums ((rd_T46 l0 x5_1).f3)).toList != (strOfNums ((rd_T46 l1 x5_1).f3)).toList) = false := bne_eq_false_iff_eq.mpr c10
                      clear c10
                      have H' := Aside0.mk H
                      clear H
                      have p366 : 0 ≤ (x5_1 : Int) := of_decide_eq_true (by (with_reducible assumption))
                      have q366 : x5_1 < (l0.length : Int) := of_decide_eq_true (by (with_reducible assumption))
                      obtain ⟨ad366, A366_3, c366_3, e366, hx366_0, hx366_1, hx366_2, hx366_3, hl366_3, hi366_3⟩ := at_T46 HR0.out x5_1 p366 q366
                      cases e366
                      have HR366_3 := Aside0.mk hi366_3
                      have HC366_3 := Aside0.mk hl366_3
                      clear hi366_3 hl366_3
                      replace p366 := eq_true p366
                      replace q366 := eq_true q366
                      have p367 : 0 ≤ (x5_1 : Int) := of_decide_eq_true (by (with_reducible assumption))
                      have q367 : x5_1 < (l1.length : Int) := of_decide_eq_true (by (with_reducible assumption))
                      obtain ⟨ad367, A367_3, c367_3, e367, hx367_0, hx367_1, hx367_2, hx367_3, hl367_3, hi367_3⟩ := at_T46 HR1.out x5_1 p367 q367
                      cases e367
                      have HR367_3 := Aside0.mk hi367_3
                      have HC367_3 := Aside0.mk hl367_3
                      clear hi367_3 hl367_3
                      replace p367 := eq_true p367
                      replace q367 := eq_true q367
                      have p368 : 0 ≤ (x5_1 : Int) := of_decide_eq_true (by (with_reducible assumption))
                      have q368 : x5_1 < (l0.length : Int) := of_decide_eq_true (by (with_reducible assumption))
                      obtain ⟨ad368, A368_3, c368_3, e368, hx368_0, hx368_1, hx368_2, hx368_3, hl368_3, hi368_3⟩ := at_T46 HR0.out x5_1 p368 q368
                      obtain rfl : ad366 = ad368 := (by injection e368)
                      have HR368_3 := Aside0.mk hi368_3
                      have HC368_3 := Aside0.mk hl368_3
                      clear hi368_3 hl368_3
                      replace p368 := eq_true p368
                      replace q368 := eq_true q368
                      have ea_ := Option.some.inj (hx366_3.symm.trans hx368_3)
                      injection ea_ with ea_ en_ ec_
                      subst ea_
                      subst ec_
                      clear en_
                      have p369 : 0 ≤ (x5_1 : Int) := of_decide_eq_true (by (with_reducible assumption))
                      have q369 : x5_1 < (l1.length : Int) := of_decide_eq_true (by (with_reducible assumption))
                      obtain ⟨ad369, A369_3, c369_3, e369, hx369_0, hx369_1, hx369_2, hx369_3, hl369_3, hi369_3⟩ := at_T46 HR1.out x5_1 p369 q369
                      obtain rfl : ad367 = ad369 := (by injection e369)
                      have HR369_3 := Aside0.mk hi369_3
                      have HC369_3 := Aside0.mk hl369_3
                      clear hi369_3 hl369_3
                      replace p369 := eq_true p369
                      replace q369 := eq_true q369
                      have ea_ := Option.some.inj (hx367_3.symm.trans hx369_3)
                      injection ea_ with ea_ en_ ec_
                      subst ea_
                      subst ec_
                      clear en_
                      have p370 : 0 ≤ (x5_1 : Int) := of_decide_eq_true (by (with_reducible assumption))
                      have q370 : x5_1 < (l0.length : Int) := of_decide_eq_true (by (with_reducible assumption))
                      obtain ⟨ad370, A370_3, c370_3, e370, hx370_0, hx370_1, hx370_2, hx370_3, hl370_3, hi370_3⟩ := at_T46 HR0.out x5_1 p370 q370
                      obtain rfl : ad366 = ad370 := (by injection e370)
                      have HR370_3 := Aside0.mk hi370_3
                      have HC370_3 := Aside0.mk hl370_3
                      clear hi370_3 hl370_3
                      replace p370 := eq_true p370
                      replace q370 := eq_true q370
                      have ea_ := Option.some.inj (hx366_3.symm.trans hx370_3)
                      injection ea_ with ea_ en_ ec_
                      subst ea_
                      subst ec_
                      clear en_
                      have p371 : 0 ≤ (x5_1 : Int) := of_decide_eq_true (by (with_reducible assumption))
                      have q371 : x5_1 < (l1.length : Int) := of_decide_eq_true (by (with_reducible assumption))
                      obtain ⟨ad371, A371_3, c371_3, e371, hx371_0, hx371_1, hx371_2, hx371_3, hl371_3, hi371_3⟩ := at_T46 HR1.out x5_1 p371 q371
                      obtain rfl : ad367 = ad371 := (by injection e371)
                      have HR371_3 := Aside0.mk hi371_3
                      have HC371_3 := Aside0.mk hl371_3
                      clear hi371_3 hl371_3
                      replace p371 := eq_true p371
                      replace q371 := eq_true q371
                      have ea_ := Option.some.inj (hx367_3.symm.trans hx371_3)
                      injection ea_ with ea_ en_ ec_
                      subst ea_
                      subst ec_
                      clear en_
                      have p372 : 0 ≤ (x5_1 : Int) := of_decide_eq_true (by (with_reducible assumption))
                      have q372 : x5_1 < (l0.length : Int) := of_decide_eq_true (by (with_reducible assumption))
                      obtain ⟨ad372, A372_3, c372_3, e372, hx372_0, hx372_1, hx372_2, hx372_3, hl372_3, hi372_3⟩ := at_T46 HR0.out x5_1 p372 q372
                      obtain rfl : ad366 = ad372 := (by injection e372)
                      have HR372_3 := Aside0.mk hi372_3
                      have HC372_3 := Aside0.mk hl372_3
                      clear hi372_3 hl372_3
                      replace p372 := eq_true p372
                      replace q372 := eq_true q372
                      have ea_ := Option.some.inj (hx366_3.symm.trans hx372_3)
                      injection ea_ with ea_ en_ ec_
                      subst ea_
                      subst ec_
                      clear en_
                      have hcv11 := fun m_ : Nat => Kd.C_string (P := Try.prog) (A := A366_3) (c := c366_3) Try.underlying28 Try.underlying5 Try.underlying9 (Kd.C_drewN HR372_3.out m_)
                      have hcv13 := Kd.C_string (P := Try.prog) (A := A366_3) (c := c366_3) Try.underlying28 Try.underlying5 Try.underlying9 HR372_3.out
                      have p373 : 0 ≤ (x5_1 : Int) := of_decide_eq_true (by (with_reducible assumption))
                      have q373 : x5_1 < (l1.length : Int) := of_decide_eq_true (by (with_reducible assumption))
                      obtain ⟨ad373, A373_3, c373_3, e373, hx373_0, hx373_1, hx373_2, hx373_3, hl373_3, hi373_3⟩ := at_T46 HR1.out x5_1 p373 q373
                      obtain rfl : ad367 = ad373 := (by injection e373)
                      have HR373_3 := Aside0.mk hi373_3
                      have HC373_3 := Aside0.mk hl373_3
                      clear hi373_3 hl373_3
                      replace p373 := eq_true p373
                      replace q373 := eq_true q373
                      have ea_ := Option.some.inj (hx367_3.symm.trans hx373_3)
                      injection ea_ with ea_ en_ ec_
                      subst ea_
                      subst ec_
                      clear en_
                      have hcv14 := fun m_ : Nat => Kd.C_string (P := Try.prog) (A := A367_3) (c := c367_3) Try.underlying28 Try.underlying5 Try.underlying9 (Kd.C_drewN HR373_3.out m_)
                      have hcv16 := Kd.C_string (P := Try.prog) (A := A367_3) (c := c367_3) Try.underlying28 Try.underlying5 Try.underlying9 HR373_3.out
                      go_wp2
                      repeat (go_quiet (fail); try go_wp2)
                      go_roundg k1
                      case measure => have := HK1.out; omega
                      case rel => exact ⟨(wrap64 (x5_1 + 1)), (by (rfl)), H', ⟨by have := HK1.out; omega⟩, by repeat (first | exact Drawn0.refl _ | apply Drawn0.step)⟩
                    · rw [if_neg c10] at H
                      have c10b0 : ((strOfNums ((rd_T46 l0 x5_1).f3)).toList == (strOfNums ((rd_T46 l1 x5_1).f3)).toList) = false := beq_eq_false_iff_ne.mpr c10
                      have c10b1 : ((strOfNums ((rd_T46 l0 x5_1).f3)).toList != (strOfNums ((rd_T46 l1 x5_1).f3)).toList) = true := bne_iff_ne.mpr c10
                      obtain rfl := Option.some.inj H
                      have p366 : 0 ≤ (x5_1 : Int) := of_decide_eq_true (by (with_reducible assumption))
                      have q366 : x5_1 < (l0.length : Int) := of_decide_eq_true (by (with_reducible assumption))
                      obtain ⟨ad366, A366_3, c366_3, e366, hx366_0, hx366_1, hx366_2, hx366_3, hl366_3, hi366_3⟩ := at_T46 HR0.out x5_1 p366 q366
                      cases e366
                      have HR366_3 := Aside0.mk hi366_3
                      have HC366_3 := Aside0.mk hl366_3
                      clear hi366_3 hl366_3
                      replace p366 := eq_true p366
                      replace q366 := eq_true q366
                      have p367 : 0 ≤ (x5_1 : Int) := of_decide_eq_true (by (with_reducible assumption))
                      have q367 : x5_1 < (l1.length : Int) := of_decide_eq_true (by (with_reducible assumption))
                      obtain ⟨ad367, A367_3, c367_3, e367, hx367_0, hx367_1, hx367_2, hx367_3, hl367_3, hi367_3⟩ := at_T46 HR1.out x5_1 p367 q367
                      cases e367
                      have HR367_3 := Aside0.mk hi367_3
                      have HC367_3 := Aside0.mk hl367_3
                      clear hi367_3 hl367_3
                      replace p367 := eq_true p367
                      replace q367 := eq_true q367
                      have p368 : 0 ≤ (x5_1 : Int) := of_decide_eq_true (by (with_reducible assumption))
                      have q368 : x5_1 < (l0.length : Int) := of_decide_eq_true (by (with_reducible assumption))
                      obtain ⟨ad368, A368_3, c368_3, e368, hx368_0, hx368_1, hx368_2, hx368_3, hl368_3, hi368_3⟩ := at_T46 HR0.out x5_1 p368 q368
                      obtain rfl : ad366 = ad368 := (by injection e368)
                      have HR368_3 := Aside0.mk hi368_3
                      have HC368_3 := Aside0.mk hl368_3
                      clear hi368_3 hl368_3
                      replace p368 := eq_true p368
                      replace q368 := eq_true q368
                      have ea_ := Option.some.inj (hx366_3.symm.trans hx368_3)
                      injection ea_ with ea_ en_ ec_
                      subst ea_
                      subst ec_
                      clear en_
                      have p369 : 0 ≤ (x5_1 : Int) := of_decide_eq_true (by (with_reducible assumption))
                      have q369 : x5_1 < (l1.length : Int) := of_decide_eq_true (by (with_reducible assumption))
                      obtain ⟨ad369, A369_3, c369_3, e369, hx369_0, hx369_1, hx369_2, hx369_3, hl369_3, hi369_3⟩ := at_T46 HR1.out x5_1 p369 q369
                      obtain rfl : ad367 = ad369 := (by injection e369)
                      have HR369_3 := Aside0.mk hi369_3
                      have HC369_3 := Aside0.mk hl369_3
                      clear hi369_3 hl369_3
                      replace p369 := eq_true p369
                      replace q369 := eq_true q369
                      have ea_ := Option.some.inj (hx367_3.symm.trans hx369_3)
                      injection ea_ with ea_ en_ ec_
                      subst ea_
                      subst ec_
                      clear en_
                      have p370 : 0 ≤ (x5_1 : Int) := of_decide_eq_true (by (with_reducible assumption))
                      have q370 : x5_1 < (l0.length : Int) := of_decide_eq_true (by (with_reducible assumption))
                      obtain ⟨ad370, A370_3, c370_3, e370, hx370_0, hx370_1, hx370_2, hx370_3, hl370_3, hi370_3⟩ := at_T46 HR0.out x5_1 p370 q370
                      obtain rfl : ad366 = ad370 := (by injection e370)
                      have HR370_3 := Aside0.mk hi370_3
                      have HC370_3 := Aside0.mk hl370_3
                      clear hi370_3 hl370_3
                      replace p370 := eq_true p370
                      replace q370 := eq_true q370
                      have ea_ := Option.some.inj (hx366_3.symm.trans hx370_3)
                      injection ea_ with ea_ en_ ec_
                      subst ea_
                      subst ec_
                      clear en_
                      have p371 : 0 ≤ (x5_1 : Int) := of_decide_eq_true (by (with_reducible assumption))
                      have q371 : x5_1 < (l1.length : Int) := of_decide_eq_true (by (with_reducible assumption))
                      obtain ⟨ad371, A371_3, c371_3, e371, hx371_0, hx371_1, hx371_2, hx371_3, hl371_3, hi371_3⟩ := at_T46 HR1.out x5_1 p371 q371
                      obtain rfl : ad367 = ad371 := (by injection e371)
                      have HR371_3 := Aside0.mk hi371_3
                      have HC371_3 := Aside0.mk hl371_3
                      clear hi371_3 hl371_3
                      replace p371 := eq_true p371
                      replace q371 := eq_true q371
                      have ea_ := Option.some.inj (hx367_3.symm.trans hx371_3)
                      injection ea_ with ea_ en_ ec_
                      subst ea_
                      subst ec_
                      clear en_
                      have p372 : 0 ≤ (x5_1 : Int) := of_decide_eq_true (by (with_reducible assumption))
                      have q372 : x5_1 < (l0.length : Int) := of_decide_eq_true (by (with_reducible assumption))
                      obtain ⟨ad372, A372_3, c372_3, e372, hx372_0, hx372_1, hx372_2, hx372_3, hl372_3, hi372_3⟩ := at_T46 HR0.out x5_1 p372 q372
                      obtain rfl : ad366 = ad372 := (by injection e372)
                      have HR372_3 := Aside0.mk hi372_3
                      have HC372_3 := Aside0.mk hl372_3
                      clear hi372_3 hl372_3
                      replace p372 := eq_true p372
                      replace q372 := eq_true q372
                      have ea_ := Option.some.inj (hx366_3.symm.trans hx372_3)
                      injection ea_ with ea_ en_ ec_
                      subst ea_
                      subst ec_
                      clear en_
                      have hcv17 := fun m_ : Nat => Kd.C_string (P := Try.prog) (A := A366_3) (c := c366_3) Try.underlying28 Try.underlying5 Try.underlying9 (Kd.C_drewN HR372_3.out m_)
                      have hcv19 := Kd.C_string (P := Try.prog) (A := A366_3) (c := c366_3) Try.underlying28 Try.underlying5 Try.underlying9 HR372_3.out
                      have p373 : 0 ≤ (x5_1 : Int) := of_decide_eq_true (by (with_reducible assumption))
                      have q373 : x5_1 < (l1.length : Int) := of_decide_eq_true (by (with_reducible assumption))
                      obtain ⟨ad373, A373_3, c373_3, e373, hx373_0, hx373_1, hx373_2, hx373_3, hl373_3, hi373_3⟩ := at_T46 HR1.out x5_1 p373 q373
                      obtain rfl : ad367 = ad373 := (by injection e373)
                      have HR373_3 := Aside0.mk hi373_3
                      have HC373_3 := Aside0.mk hl373_3
                      clear hi373_3 hl373_3
                      replace p373 := eq_true p373
                      replace q373 := eq_true q373
                      have ea_ := Option.some.inj (hx367_3.symm.trans hx373_3)
                      injection ea_ with ea_ en_ ec_
                      subst ea_
                      subst ec_
                      clear en_
                      have hcv20 := fun m_ : Nat => Kd.C_string (P := Try.prog) (A := A367_3) (c := c367_3) Try.underlying28 Try.underlying5 Try.underlying9 (Kd.C_drewN HR373_3.out m_)
                      have hcv22 := Kd.C_string (P := Try.prog) (A := A367_3) (c := c367_3) Try.underlying28 Try.underlying5 Try.underlying9 HR373_3.out
                      go_wp2
                      repeat (go_quiet (fail); try go_wp2)
                      go_ret
                      exact ⟨by (rfl), by repeat (first | exact Drawn0.refl _ | apply Drawn0.step)⟩
                  · rw [if_neg c9] at H
                    have c9b0 : (((rd_T46 l0 x5_1).f2) == ((rd_T46 l1 x5_1).f2)) = false := beq_eq_false_iff_ne.mpr c9
                    have c9b1 : (((rd_T46 l0 x5_1).f2) != ((rd_T46 l1 x5_1).f2)) = true := bne_iff_ne.mpr c9
                    obtain rfl := Option.some.inj H
                    have p366 : 0 ≤ (x5_1 : Int) := of_decide_eq_true (by (with_reducible assumption))
                    have q366 : x5_1 < (l0.length : Int) := of_decide_eq_true (by (with_reducible assumption))
                    obtain ⟨ad366, A366_3, c366_3, e366, hx366_0, hx366_1, hx366_2, hx366_3, hl366_3, hi366_3⟩ := at_T46 HR0.out x5_1 p366 q366
                    cases e366
                    have HR366_3 := Aside0.mk hi366_3
                    have HC366_3 := Aside0.mk hl366_3
                    clear hi366_3 hl366_3
                    replace p366 := eq_true p366
                    replace q366 := eq_true q366
                    have p367 : 0 ≤ (x5_1 : Int) := of_decide_eq_true (by (with_reducible assumption))
                    have q367 : x5_1 < (l1.length : Int) := of_decide_eq_true (by (with_reducible assumption))
                    obtain ⟨ad367, A367_3, c367_3, e367, hx367_0, hx367_1, hx367_2, hx367_3, hl367_3, hi367_3⟩ := at_T46 HR1.out x5_1 p367 q367
                    cases e367
                    have HR367_3 := Aside0.mk hi367_3
                    have HC367_3 := Aside0.mk hl367_3
                    clear hi367_3 hl367_3
                    replace p367 := eq_true p367
                    replace q367 := eq_true q367
                    have p368 : 0 ≤ (x5_1 : Int) := of_decide_eq_true (by (with_reducible assumption))
                    have q368 : x5_1 < (l0.length : Int) := of_decide_eq_true (by (with_reducible assumption))
                    obtain ⟨ad368, A368_3, c368_3, e368, hx368_0, hx368_1, hx368_2, hx368_3, hl368_3, hi368_3⟩ := at_T46 HR0.out x5_1 p368 q368
                    obtain rfl : ad366 = ad368 := (by injection e368)
                    have HR368_3 := Aside0.mk hi368_3
                    have HC368_3 := Aside0.mk hl368_3
                    clear hi368_3 hl368_3
                    replace p368 := eq_true p368
                    replace q368 := eq_true q368
                    have ea_ := Option.some.inj (hx366_3.symm.trans hx368_3)
                    injection ea_ with ea_ en_ ec_
                    subst ea_
                    subst ec_
                    clear en_
                    have p369 : 0 ≤ (x5_1 : Int) := of_decide_eq_true (by (with_reducible assumption))
                    have q369 : x5_1 < (l1.length : Int) := of_decide_eq_true (by (with_reducible assumption))
                    obtain ⟨ad369, A369_3, c369_3, e369, hx369_0, hx369_1, hx369_2, hx369_3, hl369_3, hi369_3⟩ := at_T46 HR1.out x5_1 p369 q369
                    obtain rfl : ad367 = ad369 := (by injection e369)
                    have HR369_3 := Aside0.mk hi369_3
                    have HC369_3 := Aside0.mk hl369_3
                    clear hi369_3 hl369_3
                    replace p369 := eq_true p369
                    replace q369 := eq_true q369
                    have ea_ := Option.some.inj (hx367_3.symm.trans hx369_3)
                    injection ea_ with ea_ en_ ec_
                    subst ea_
                    subst ec_
                    clear en_
                    have p370 : 0 ≤ (x5_1 : Int) := of_decide_eq_true (by (with_reducible assumption))
                    have q370 : x5_1 < (l0.length : Int) := of_decide_eq_true (by (with_reducible assumption))
                    obtain ⟨ad370, A370_3, c370_3, e370, hx370_0, hx370_1, hx370_2, hx370_3, hl370_3, hi370_3⟩ := at_T46 HR0.out x5_1 p370 q370
                    obtain rfl : ad366 = ad370 := (by injection e370)
                    have HR370_3 := Aside0.mk hi370_3
                    have HC370_3 := Aside0.mk hl370_3
                    clear hi370_3 hl370_3
                    replace p370 := eq_true p370
                    replace q370 := eq_true q370
                    have ea_ := Option.some.inj (hx366_3.symm.trans hx370_3)
                    injection ea_ with ea_ en_ ec_
                    subst ea_
                    subst ec_
                    clear en_
                    have p371 : 0 ≤ (x5_1 : Int) := of_decide_eq_true (by (with_reducible assumption))
                    have q371 : x5_1 < (l1.length : Int) := of_decide_eq_true (by (with_reducible assumption))
                    obtain ⟨ad371, A371_3, c371_3, e371, hx371_0, hx371_1, hx371_2, hx371_3, hl371_3, hi371_3⟩ := at_T46 HR1.out x5_1 p371 q371
                    obtain rfl : ad367 = ad371 := (by injection e371)
                    have HR371_3 := Aside0.mk hi371_3
                    have HC371_3 := Aside0.mk hl371_3
                    clear hi371_3 hl371_3
                    replace p371 := eq_true p371
                    replace q371 := eq_true q371
                    have ea_ := Option.some.inj (hx367_3.symm.trans hx371_3)
                    injection ea_ with ea_ en_ ec_
                    subst ea_
                    subst ec_
                    clear en_
                    go_wp2
                    repeat (go_quiet (fail); try go_wp2)
                    go_ret
                    exact ⟨by (rfl), by repeat (first | exact Drawn0.refl _ | apply Drawn0.step)⟩
                · rw [if_neg c8] at H
                  have c8b0 : (((rd_T46 l0 x5_1).f1) == ((rd_T46 l1 x5_1).f1)) = false := beq_eq_false_iff_ne.mpr c8
                  have c8b1 : (((rd_T46 l0 x5_1).f1) != ((rd_T46 l1 x5_1).f1)) = true := bne_iff_ne.mpr c8
                  obtain rfl := Option.some.inj H
                  have p366 : 0 ≤ (x5_1 : Int) := of_decide_eq_true (by (with_reducible assumption))
                  have q366 : x5_1 < (l0.length : Int) := of_decide_eq_true (by (with_reducible assumption))
                  obtain ⟨ad366, A366_3, c366_3, e366, hx366_0, hx366_1, hx366_2, hx366_3, hl366_3, hi366_3⟩ := at_T46 HR0.out x5_1 p366 q366
                  cases e366
                  have HR366_3 := Aside0.mk hi366_3
                  have HC366_3 := Aside0.mk hl366_3
                  clear hi366_3 hl366_3
                  replace p366 := eq_true p366
                  replace q366 := eq_true q366
                  have p367 : 0 ≤ (x5_1 : Int) := of_decide_eq_true (by (with_reducible assumption))
                  have q367 : x5_1 < (l1.length : Int) := of_decide_eq_true (by (with_reducible assumption))
                  obtain ⟨ad367, A367_3, c367_3, e367, hx367_0, hx367_1, hx367_2, hx367_3, hl367_3, hi367_3⟩ := at_T46 HR1.out x5_1 p367 q367
                  cases e367
                  have HR367_3 := Aside0.mk hi367_3
                  have HC367_3 := Aside0.mk hl367_3
                  clear hi367_3 hl367_3
                  replace p367 := eq_true p367
                  replace q367 := eq_true q367
                  have p368 : 0 ≤ (x5_1 : Int) := of_decide_eq_true (by (with_reducible assumption))
                  have q368 : x5_1 < (l0.length : Int) := of_decide_eq_true (by (with_reducible assumption))
                  obtain ⟨ad368, A368_3, c368_3, e368, hx368_0, hx368_1, hx368_2, hx368_3, hl368_3, hi368_3⟩ := at_T46 HR0.out x5_1 p368 q368
                  obtain rfl : ad366 = ad368 := (by injection e368)
                  have HR368_3 := Aside0.mk hi368_3
                  have HC368_3 := Aside0.mk hl368_3
                  clear hi368_3 hl368_3
                  replace p368 := eq_true p368
                  replace q368 := eq_true q368
                  have ea_ := Option.some.inj (hx366_3.symm.trans hx368_3)
                  injection ea_ with ea_ en_ ec_
                  subst ea_
                  subst ec_
                  clear en_
                  have p369 : 0 ≤ (x5_1 : Int) := of_decide_eq_true (by (with_reducible assumption))
                  have q369 : x5_1 < (l1.length : Int) := of_decide_eq_true (by (with_reducible assumption))
                  obtain ⟨ad369, A369_3, c369_3, e369, hx369_0, hx369_1, hx369_2, hx369_3, hl369_3, hi369_3⟩ := at_T46 HR1.out x5_1 p369 q369
                  obtain rfl : ad367 = ad369 := (by injection e369)
                  have HR369_3 := Aside0.mk hi369_3
                  have HC369_3 := Aside0.mk hl369_3
                  clear hi369_3 hl369_3
                  replace p369 := eq_true p369
                  replace q369 := eq_true q369
                  have ea_ := Option.some.inj (hx367_3.symm.trans hx369_3)
                  injection ea_ with ea_ en_ ec_
                  subst ea_
                  subst ec_
                  clear en_
                  go_wp2
                  repeat (go_quiet (fail); try go_wp2)
                  go_ret
                  exact ⟨by (rfl), by repeat (first | exact Drawn0.refl _ | apply Drawn0.step)⟩
              · rw [if_neg c7] at H
                have c7b0 : (((rd_T46 l0 x5_1).f0) == ((rd_T46 l1 x5_1).f0)) = false := beq_eq_false_iff_ne.mpr c7
                have c7b1 : (((rd_T46 l0 x5_1).f0) != ((rd_T46 l1 x5_1).f0)) = true := bne_iff_ne.mpr c7
                obtain rfl := Option.some.inj H
                have p366 : 0 ≤ (x5_1 : Int) := of_decide_eq_true (by (with_reducible assumption))
                have q366 : x5_1 < (l0.length : Int) := of_decide_eq_true (by (with_reducible assumption))
                obtain ⟨ad366, A366_3, c366_3, e366, hx366_0, hx366_1, hx366_2, hx366_3, hl366_3, hi366_3⟩ := at_T46 HR0.out x5_1 p366 q366
                cases e366
                have HR366_3 := Aside0.mk hi366_3
                have HC366_3 := Aside0.mk hl366_3
                clear hi366_3 hl366_3
                replace p366 := eq_true p366
                replace q366 := eq_true q366
                have p367 : 0 ≤ (x5_1 : Int) := of_decide_eq_true (by (with_reducible assumption))
                have q367 : x5_1 < (l1.length : Int) := of_decide_eq_true (by (with_reducible assumption))
                obtain ⟨ad367, A367_3, c367_3, e367, hx367_0, hx367_1, hx367_2, hx367_3, hl367_3, hi367_3⟩ := at_T46 HR1.out x5_1 p367 q367
                cases e367
                have HR367_3 := Aside0.mk hi367_3
                have HC367_3 := Aside0.mk hl367_3
                clear hi367_3 hl367_3
                replace p367 := eq_true p367
                replace q367 := eq_true q367
                go_wp2
                repeat (go_quiet (fail); try go_wp2)
                go_ret
                exact ⟨by (rfl), by repeat (first | exact Drawn0.refl _ | apply Drawn0.step)⟩
            · rw [if_neg c6] at H
              exact absurd H (by simp)
          · rw [if_neg c5] at H
            exact absurd H (by simp)
        · rw [if_neg c4] at H
          have c4b0 : decide (x5_1 < (l0.length : Int)) = false := decide_eq_false c4
          clear c4
          obtain rfl := Option.some.inj H
          go_wp2
          go_ret
          exact ⟨by (rfl), by repeat (first | exact Drawn0.refl _ | apply Drawn0.step)⟩
  · rw [if_neg c3] at H
    have c3b0 : ((l0.length : Int) == (l1.length : Int)) = false := beq_eq_false_iff_ne.mpr c3
    have c3b1 : ((l0.length : Int) != (l1.length : Int)) = true := bne_iff_ne.mpr c3
    have c3b2 : (l0.length == l1.length) = false := by (simp at c3 ⊢; omega)
    obtain rfl := Option.some.inj H
    go_enter Try.func23, Try.ntmps23
    go_wp2
    go_ret
    exact ⟨by (rfl), by exact Drawn0.refl _⟩

end Go.Proofs.Ytnjimecjpnjojaa.Print
