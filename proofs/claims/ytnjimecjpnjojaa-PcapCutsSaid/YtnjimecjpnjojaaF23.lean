-- laid by this session's own program (wip/mkprint.sh) for this claim
import Derived.Test.Ytnjimecjpnjojaa0
namespace Go.Proofs.Ytnjimecjpnjojaa.Print
open Go.RowKit Go.Proofs.YtnjimecjpnjojaaW.PrintWords Go.Proofs.YtnjimecjpnjojaaW.PrintLast Go.Proofs.YtnjimecjpnjojaaW.PrintMore
attribute [local go_sem] max2_int min2_int max_two min_two max_three min_three max_four min_four   -- for this text's walks alone
set_option linter.unusedVariables false
set_option linter.unusedSimpArgs false

/-! ### umpireref09_Same: function 23 -/
def umpireref09_Same.l0 : Nat → List (S46) → List (S46) → Int → Option (Bool)
  | 0, _, _, _ => none
  | k + 1, x0, x1, x5 => if x5 < (x0.length : Int) then (if 0 ≤ x5 then (if x5 < (x1.length : Int) then (if ((rd_T46 x0 x5).f0) = ((rd_T46 x1 x5).f0) then (if ((rd_T46 x0 x5).f1) = ((rd_T46 x1 x5).f1) then (if ((rd_T46 x0 x5).f2) = ((rd_T46 x1 x5).f2) then (if (strOfNums ((rd_T46 x0 x5).f3)).toList = (strOfNums ((rd_T46 x1 x5).f3)).toList then (umpireref09_Same.l0 k x0 x1 (wrap64 (x5 + 1))) else (some false)) else (some false)) else (some false)) else (some false)) else (none)) else (none)) else (some true)
def umpireref09_Same.f (k : Nat) (l0 : List (S46)) (l1 : List (S46)) : Option (Bool) := if (l0.length : Int) = (l1.length : Int) then (umpireref09_Same.l0 k l0 l1 0) else (some false)
theorem umpireref09_Same.mono_l : ∀ k, (∀ y0 y1 y2, LeO (umpireref09_Same.l0 k y0 y1 y2) (umpireref09_Same.l0 (k + 1) y0 y1 y2))
  | 0 => fun _ _ _ r h => by simp [umpireref09_Same.l0] at h
  | k + 1 => by
    have ih0 := umpireref09_Same.mono_l k
    · intro y0 y1 y2
      unfold umpireref09_Same.l0
      repeat' first
      | (with_reducible exact ih0 _ _ _)
      | (with_reducible exact LeO.refl _)
      | (with_reducible exact LeO.none _)
      | (with_reducible refine LeO.ite ?_ ?_)
      | (with_reducible refine LeO.bind ?_ (fun _ => ?_))
      | exact ih0 _ _ _
      | exact LeO.none _
      | refine LeO.ite ?_ ?_
      | refine LeO.bind ?_ (fun _ => ?_)
theorem umpireref09_Same.mono : ∀ a0 a1 k, LeO (umpireref09_Same.f k a0 a1) (umpireref09_Same.f (k + 1) a0 a1) := by
  intro a0 a1 k
  have ih0 := umpireref09_Same.mono_l k
  unfold umpireref09_Same.f
  repeat' first
      | (with_reducible exact ih0 _ _ _)
      | (with_reducible exact LeO.refl _)
      | (with_reducible exact LeO.none _)
      | (with_reducible refine LeO.ite ?_ ?_)
      | (with_reducible refine LeO.bind ?_ (fun _ => ?_))
      | exact ih0 _ _ _
      | exact LeO.none _
      | refine LeO.ite ?_ ?_
      | refine LeO.bind ?_ (fun _ => ?_)
set_option maxHeartbeats 8000000 in
set_option maxRecDepth 100000 in
theorem umpireref09_Same.calls (k : Nat) (A0 : Option Addr) (c0 : Nat) (l0 : List (S46)) (A1 : Option Addr) (c1 : Nat) (l1 : List (S46)) (r : Bool) (w : World) (hr0 : Kd.C k46 w A0 l0.length l0) (hc0 : l0.length ≤ c0) (hr1 : Kd.C k46 w A1 l1.length l1) (hc1 : l1.length ≤ c1) (h : umpireref09_Same.f k l0 l1 = some r) :
    Calls Try.prog 23 #[.slice A0 l0.length c0, .slice A1 l1.length c1] w fun e w' => e = .returned (.bool r) ∧ Drawn0 w w' := by
  have HR0 := Aside0.mk hr0
  have HC0 := Aside0.mk hc0
  clear hr0 hc0
  have HR1 := Aside0.mk hr1
  have HC1 := Aside0.mk hc1
  clear hr1 hc1
  have H : (if (l0.length : Int) = (l1.length : Int) then (umpireref09_Same.l0 k l0 l1 0) else (some false)) = some r := h
  clear h
  by_cases c3 : (l0.length : Int) = (l1.length : Int)
  · rw [if_pos c3] at H
    have c3b0 : ((l0.length : Int) == (l1.length : Int)) = true := beq_iff_eq.mpr c3
    have c3b1 : ((l0.length : Int) != (l1.length : Int)) = false := bne_eq_false_iff_eq.mpr c3
    have c3b2 : (l0.length == l1.length) = true := by first | simpa using c3 | (simp at c3 ⊢; omega)
    clear c3
    have H' := Aside0.mk H
    clear H
    go_enter Try.func23, Try.ntmps23
    go_wp2
    repeat (go_quiet (fail); try go_wp2)
    go_loopg [5] k (fun kq v5 w' => ∃ (x5_1 : Int), v5 = .int .i64 x5_1 ∧ Aside0 (umpireref09_Same.l0 kq l0 l1 x5_1 = some r) ∧ Aside0 (kq ≤ k) ∧ Drawn0 w w')
    case atStart => exact ⟨(0), (by first | rfl | (simp; done) | (simp [*]; done)), H', ⟨Nat.le_refl _⟩, by repeat (first | exact Drawn0.refl _ | apply Drawn0.step)⟩
    case round =>
      clear H'
      try clear c1
      try clear c2
      try clear p2
      try clear c3
      try clear c3b0
      try clear c3b1
      try clear c3b2
      obtain ⟨x5_1, rfl, HA, HK1, ⟨m1, rfl⟩⟩ := hrel
      cases gk with
      | zero => exact absurd HA.out (by simp [umpireref09_Same.l0])
      | succ k1 =>
        have H := HA.out
        clear HA
        simp only [umpireref09_Same.l0] at H
        by_cases c4 : x5_1 < (l0.length : Int)
        · rw [if_pos c4] at H
          have c4b0 : decide (x5_1 < (l0.length : Int)) = true := decide_eq_true c4
          clear c4
          by_cases c5 : 0 ≤ x5_1
          · rw [if_pos c5] at H
            have c5b0 : decide (0 ≤ x5_1) = true := decide_eq_true c5
            clear c5
            by_cases c6 : x5_1 < (l1.length : Int)
            · rw [if_pos c6] at H
              have c6b0 : decide (x5_1 < (l1.length : Int)) = true := decide_eq_true c6
              clear c6
              by_cases c7 : ((rd_T46 l0 x5_1).f0) = ((rd_T46 l1 x5_1).f0)
              · rw [if_pos c7] at H
                have c7b0 : (((rd_T46 l0 x5_1).f0) == ((rd_T46 l1 x5_1).f0)) = true := beq_iff_eq.mpr c7
                have c7b1 : (((rd_T46 l0 x5_1).f0) != ((rd_T46 l1 x5_1).f0)) = false := bne_eq_false_iff_eq.mpr c7
                clear c7
                by_cases c8 : ((rd_T46 l0 x5_1).f1) = ((rd_T46 l1 x5_1).f1)
                · rw [if_pos c8] at H
                  have c8b0 : (((rd_T46 l0 x5_1).f1) == ((rd_T46 l1 x5_1).f1)) = true := beq_iff_eq.mpr c8
                  have c8b1 : (((rd_T46 l0 x5_1).f1) != ((rd_T46 l1 x5_1).f1)) = false := bne_eq_false_iff_eq.mpr c8
                  clear c8
                  by_cases c9 : ((rd_T46 l0 x5_1).f2) = ((rd_T46 l1 x5_1).f2)
                  · rw [if_pos c9] at H
                    have c9b0 : (((rd_T46 l0 x5_1).f2) == ((rd_T46 l1 x5_1).f2)) = true := beq_iff_eq.mpr c9
                    have c9b1 : (((rd_T46 l0 x5_1).f2) != ((rd_T46 l1 x5_1).f2)) = false := bne_eq_false_iff_eq.mpr c9
                    clear c9
                    by_cases c10 : (strOfNums ((rd_T46 l0 x5_1).f3)).toList = (strOfNums ((rd_T46 l1 x5_1).f3)).toList
                    · rw [if_pos c10] at H
                      have c10b0 : ((strOfNums ((rd_T46 l0 x5_1).f3)).toList == (strOfNums ((rd_T46 l1 x5_1).f3)).toList) = true := beq_iff_eq.mpr c10
                      have c10b1 : ((strOfNums ((rd_T46 l0 x5_1).f3)).toList != (strOfNums ((rd_T46 l1 x5_1).f3)).toList) = false := bne_eq_false_iff_eq.mpr c10
                      clear c10
                      have H' := Aside0.mk H
                      clear H
                      have p361 : 0 ≤ (x5_1 : Int) := of_decide_eq_true (by first | (with_reducible assumption) | assumption)
                      have q361 : x5_1 < (l0.length : Int) := of_decide_eq_true (by first | (with_reducible assumption) | assumption)
                      obtain ⟨ad361, A361_3, c361_3, e361, hx361_0, hx361_1, hx361_2, hx361_3, hl361_3, hi361_3⟩ := at_T46 HR0.out x5_1 p361 q361
                      cases e361
                      have HR361_3 := Aside0.mk hi361_3
                      have HC361_3 := Aside0.mk hl361_3
                      clear hi361_3 hl361_3
                      replace p361 := eq_true p361
                      replace q361 := eq_true q361
                      have p362 : 0 ≤ (x5_1 : Int) := of_decide_eq_true (by first | (with_reducible assumption) | assumption)
                      have q362 : x5_1 < (l1.length : Int) := of_decide_eq_true (by first | (with_reducible assumption) | assumption)
                      obtain ⟨ad362, A362_3, c362_3, e362, hx362_0, hx362_1, hx362_2, hx362_3, hl362_3, hi362_3⟩ := at_T46 HR1.out x5_1 p362 q362
                      cases e362
                      have HR362_3 := Aside0.mk hi362_3
                      have HC362_3 := Aside0.mk hl362_3
                      clear hi362_3 hl362_3
                      replace p362 := eq_true p362
                      replace q362 := eq_true q362
                      have p363 : 0 ≤ (x5_1 : Int) := of_decide_eq_true (by first | (with_reducible assumption) | assumption)
                      have q363 : x5_1 < (l0.length : Int) := of_decide_eq_true (by first | (with_reducible assumption) | assumption)
                      obtain ⟨ad363, A363_3, c363_3, e363, hx363_0, hx363_1, hx363_2, hx363_3, hl363_3, hi363_3⟩ := at_T46 HR0.out x5_1 p363 q363
                      obtain rfl : ad361 = ad363 := (by injection e363)
                      have HR363_3 := Aside0.mk hi363_3
                      have HC363_3 := Aside0.mk hl363_3
                      clear hi363_3 hl363_3
                      replace p363 := eq_true p363
                      replace q363 := eq_true q363
                      have ea_ := Option.some.inj (hx361_3.symm.trans hx363_3)
                      injection ea_ with ea_ en_ ec_
                      subst ea_
                      subst ec_
                      clear en_
                      have p364 : 0 ≤ (x5_1 : Int) := of_decide_eq_true (by first | (with_reducible assumption) | assumption)
                      have q364 : x5_1 < (l1.length : Int) := of_decide_eq_true (by first | (with_reducible assumption) | assumption)
                      obtain ⟨ad364, A364_3, c364_3, e364, hx364_0, hx364_1, hx364_2, hx364_3, hl364_3, hi364_3⟩ := at_T46 HR1.out x5_1 p364 q364
                      obtain rfl : ad362 = ad364 := (by injection e364)
                      have HR364_3 := Aside0.mk hi364_3
                      have HC364_3 := Aside0.mk hl364_3
                      clear hi364_3 hl364_3
                      replace p364 := eq_true p364
                      replace q364 := eq_true q364
                      have ea_ := Option.some.inj (hx362_3.symm.trans hx364_3)
                      injection ea_ with ea_ en_ ec_
                      subst ea_
                      subst ec_
                      clear en_
                      have p365 : 0 ≤ (x5_1 : Int) := of_decide_eq_true (by first | (with_reducible assumption) | assumption)
                      have q365 : x5_1 < (l0.length : Int) := of_decide_eq_true (by first | (with_reducible assumption) | assumption)
                      obtain ⟨ad365, A365_3, c365_3, e365, hx365_0, hx365_1, hx365_2, hx365_3, hl365_3, hi365_3⟩ := at_T46 HR0.out x5_1 p365 q365
                      obtain rfl : ad361 = ad365 := (by injection e365)
                      have HR365_3 := Aside0.mk hi365_3
                      have HC365_3 := Aside0.mk hl365_3
                      clear hi365_3 hl365_3
                      replace p365 := eq_true p365
                      replace q365 := eq_true q365
                      have ea_ := Option.some.inj (hx361_3.symm.trans hx365_3)
                      injection ea_ with ea_ en_ ec_
                      subst ea_
                      subst ec_
                      clear en_
                      have p366 : 0 ≤ (x5_1 : Int) := of_decide_eq_true (by first | (with_reducible assumption) | assumption)
                      have q366 : x5_1 < (l1.length : Int) := of_decide_eq_true (by first | (with_reducible assumption) | assumption)
                      obtain ⟨ad366, A366_3, c366_3, e366, hx366_0, hx366_1, hx366_2, hx366_3, hl366_3, hi366_3⟩ := at_T46 HR1.out x5_1 p366 q366
                      obtain rfl : ad362 = ad366 := (by injection e366)
                      have HR366_3 := Aside0.mk hi366_3
                      have HC366_3 := Aside0.mk hl366_3
                      clear hi366_3 hl366_3
                      replace p366 := eq_true p366
                      replace q366 := eq_true q366
                      have ea_ := Option.some.inj (hx362_3.symm.trans hx366_3)
                      injection ea_ with ea_ en_ ec_
                      subst ea_
                      subst ec_
                      clear en_
                      have p367 : 0 ≤ (x5_1 : Int) := of_decide_eq_true (by first | (with_reducible assumption) | assumption)
                      have q367 : x5_1 < (l0.length : Int) := of_decide_eq_true (by first | (with_reducible assumption) | assumption)
                      obtain ⟨ad367, A367_3, c367_3, e367, hx367_0, hx367_1, hx367_2, hx367_3, hl367_3, hi367_3⟩ := at_T46 HR0.out x5_1 p367 q367
                      obtain rfl : ad361 = ad367 := (by injection e367)
                      have HR367_3 := Aside0.mk hi367_3
                      have HC367_3 := Aside0.mk hl367_3
                      clear hi367_3 hl367_3
                      replace p367 := eq_true p367
                      replace q367 := eq_true q367
                      have ea_ := Option.some.inj (hx361_3.symm.trans hx367_3)
                      injection ea_ with ea_ en_ ec_
                      subst ea_
                      subst ec_
                      clear en_
                      have hcv11 := fun m_ : Nat => Kd.C_string (P := Try.prog) (A := A361_3) (c := c361_3) Try.underlying28 Try.underlying5 Try.underlying9 (Kd.C_drewN HR367_3.out m_)
                      have hcv13 := Kd.C_string (P := Try.prog) (A := A361_3) (c := c361_3) Try.underlying28 Try.underlying5 Try.underlying9 HR367_3.out
                      have p368 : 0 ≤ (x5_1 : Int) := of_decide_eq_true (by first | (with_reducible assumption) | assumption)
                      have q368 : x5_1 < (l1.length : Int) := of_decide_eq_true (by first | (with_reducible assumption) | assumption)
                      obtain ⟨ad368, A368_3, c368_3, e368, hx368_0, hx368_1, hx368_2, hx368_3, hl368_3, hi368_3⟩ := at_T46 HR1.out x5_1 p368 q368
                      obtain rfl : ad362 = ad368 := (by injection e368)
                      have HR368_3 := Aside0.mk hi368_3
                      have HC368_3 := Aside0.mk hl368_3
                      clear hi368_3 hl368_3
                      replace p368 := eq_true p368
                      replace q368 := eq_true q368
                      have ea_ := Option.some.inj (hx362_3.symm.trans hx368_3)
                      injection ea_ with ea_ en_ ec_
                      subst ea_
                      subst ec_
                      clear en_
                      have hcv14 := fun m_ : Nat => Kd.C_string (P := Try.prog) (A := A362_3) (c := c362_3) Try.underlying28 Try.underlying5 Try.underlying9 (Kd.C_drewN HR368_3.out m_)
                      have hcv16 := Kd.C_string (P := Try.prog) (A := A362_3) (c := c362_3) Try.underlying28 Try.underlying5 Try.underlying9 HR368_3.out
                      go_wp2
                      repeat (go_quiet (fail); try go_wp2)
                      go_roundg k1
                      case measure => have := HK1.out; omega
                      case rel => exact ⟨(wrap64 (x5_1 + 1)), (by first | rfl | (simp; done) | (simp [*]; done)), H', ⟨by have := HK1.out; omega⟩, by repeat (first | exact Drawn0.refl _ | apply Drawn0.step)⟩
                    · rw [if_neg c10] at H
                      have c10b0 : ((strOfNums ((rd_T46 l0 x5_1).f3)).toList == (strOfNums ((rd_T46 l1 x5_1).f3)).toList) = false := beq_eq_false_iff_ne.mpr c10
                      have c10b1 : ((strOfNums ((rd_T46 l0 x5_1).f3)).toList != (strOfNums ((rd_T46 l1 x5_1).f3)).toList) = true := bne_iff_ne.mpr c10
                      obtain rfl := Option.some.inj H
                      have p361 : 0 ≤ (x5_1 : Int) := of_decide_eq_true (by first | (with_reducible assumption) | assumption)
                      have q361 : x5_1 < (l0.length : Int) := of_decide_eq_true (by first | (with_reducible assumption) | assumption)
                      obtain ⟨ad361, A361_3, c361_3, e361, hx361_0, hx361_1, hx361_2, hx361_3, hl361_3, hi361_3⟩ := at_T46 HR0.out x5_1 p361 q361
                      cases e361
                      have HR361_3 := Aside0.mk hi361_3
                      have HC361_3 := Aside0.mk hl361_3
                      clear hi361_3 hl361_3
                      replace p361 := eq_true p361
                      replace q361 := eq_true q361
                      have p362 : 0 ≤ (x5_1 : Int) := of_decide_eq_true (by first | (with_reducible assumption) | assumption)
                      have q362 : x5_1 < (l1.length : Int) := of_decide_eq_true (by first | (with_reducible assumption) | assumption)
                      obtain ⟨ad362, A362_3, c362_3, e362, hx362_0, hx362_1, hx362_2, hx362_3, hl362_3, hi362_3⟩ := at_T46 HR1.out x5_1 p362 q362
                      cases e362
                      have HR362_3 := Aside0.mk hi362_3
                      have HC362_3 := Aside0.mk hl362_3
                      clear hi362_3 hl362_3
                      replace p362 := eq_true p362
                      replace q362 := eq_true q362
                      have p363 : 0 ≤ (x5_1 : Int) := of_decide_eq_true (by first | (with_reducible assumption) | assumption)
                      have q363 : x5_1 < (l0.length : Int) := of_decide_eq_true (by first | (with_reducible assumption) | assumption)
                      obtain ⟨ad363, A363_3, c363_3, e363, hx363_0, hx363_1, hx363_2, hx363_3, hl363_3, hi363_3⟩ := at_T46 HR0.out x5_1 p363 q363
                      obtain rfl : ad361 = ad363 := (by injection e363)
                      have HR363_3 := Aside0.mk hi363_3
                      have HC363_3 := Aside0.mk hl363_3
                      clear hi363_3 hl363_3
                      replace p363 := eq_true p363
                      replace q363 := eq_true q363
                      have ea_ := Option.some.inj (hx361_3.symm.trans hx363_3)
                      injection ea_ with ea_ en_ ec_
                      subst ea_
                      subst ec_
                      clear en_
                      have p364 : 0 ≤ (x5_1 : Int) := of_decide_eq_true (by first | (with_reducible assumption) | assumption)
                      have q364 : x5_1 < (l1.length : Int) := of_decide_eq_true (by first | (with_reducible assumption) | assumption)
                      obtain ⟨ad364, A364_3, c364_3, e364, hx364_0, hx364_1, hx364_2, hx364_3, hl364_3, hi364_3⟩ := at_T46 HR1.out x5_1 p364 q364
                      obtain rfl : ad362 = ad364 := (by injection e364)
                      have HR364_3 := Aside0.mk hi364_3
                      have HC364_3 := Aside0.mk hl364_3
                      clear hi364_3 hl364_3
                      replace p364 := eq_true p364
                      replace q364 := eq_true q364
                      have ea_ := Option.some.inj (hx362_3.symm.trans hx364_3)
                      injection ea_ with ea_ en_ ec_
                      subst ea_
                      subst ec_
                      clear en_
                      have p365 : 0 ≤ (x5_1 : Int) := of_decide_eq_true (by first | (with_reducible assumption) | assumption)
                      have q365 : x5_1 < (l0.length : Int) := of_decide_eq_true (by first | (with_reducible assumption) | assumption)
                      obtain ⟨ad365, A365_3, c365_3, e365, hx365_0, hx365_1, hx365_2, hx365_3, hl365_3, hi365_3⟩ := at_T46 HR0.out x5_1 p365 q365
                      obtain rfl : ad361 = ad365 := (by injection e365)
                      have HR365_3 := Aside0.mk hi365_3
                      have HC365_3 := Aside0.mk hl365_3
                      clear hi365_3 hl365_3
                      replace p365 := eq_true p365
                      replace q365 := eq_true q365
                      have ea_ := Option.some.inj (hx361_3.symm.trans hx365_3)
                      injection ea_ with ea_ en_ ec_
                      subst ea_
                      subst ec_
                      clear en_
                      have p366 : 0 ≤ (x5_1 : Int) := of_decide_eq_true (by first | (with_reducible assumption) | assumption)
                      have q366 : x5_1 < (l1.length : Int) := of_decide_eq_true (by first | (with_reducible assumption) | assumption)
                      obtain ⟨ad366, A366_3, c366_3, e366, hx366_0, hx366_1, hx366_2, hx366_3, hl366_3, hi366_3⟩ := at_T46 HR1.out x5_1 p366 q366
                      obtain rfl : ad362 = ad366 := (by injection e366)
                      have HR366_3 := Aside0.mk hi366_3
                      have HC366_3 := Aside0.mk hl366_3
                      clear hi366_3 hl366_3
                      replace p366 := eq_true p366
                      replace q366 := eq_true q366
                      have ea_ := Option.some.inj (hx362_3.symm.trans hx366_3)
                      injection ea_ with ea_ en_ ec_
                      subst ea_
                      subst ec_
                      clear en_
                      have p367 : 0 ≤ (x5_1 : Int) := of_decide_eq_true (by first | (with_reducible assumption) | assumption)
                      have q367 : x5_1 < (l0.length : Int) := of_decide_eq_true (by first | (with_reducible assumption) | assumption)
                      obtain ⟨ad367, A367_3, c367_3, e367, hx367_0, hx367_1, hx367_2, hx367_3, hl367_3, hi367_3⟩ := at_T46 HR0.out x5_1 p367 q367
                      obtain rfl : ad361 = ad367 := (by injection e367)
                      have HR367_3 := Aside0.mk hi367_3
                      have HC367_3 := Aside0.mk hl367_3
                      clear hi367_3 hl367_3
                      replace p367 := eq_true p367
                      replace q367 := eq_true q367
                      have ea_ := Option.some.inj (hx361_3.symm.trans hx367_3)
                      injection ea_ with ea_ en_ ec_
                      subst ea_
                      subst ec_
                      clear en_
                      have hcv17 := fun m_ : Nat => Kd.C_string (P := Try.prog) (A := A361_3) (c := c361_3) Try.underlying28 Try.underlying5 Try.underlying9 (Kd.C_drewN HR367_3.out m_)
                      have hcv19 := Kd.C_string (P := Try.prog) (A := A361_3) (c := c361_3) Try.underlying28 Try.underlying5 Try.underlying9 HR367_3.out
                      have p368 : 0 ≤ (x5_1 : Int) := of_decide_eq_true (by first | (with_reducible assumption) | assumption)
                      have q368 : x5_1 < (l1.length : Int) := of_decide_eq_true (by first | (with_reducible assumption) | assumption)
                      obtain ⟨ad368, A368_3, c368_3, e368, hx368_0, hx368_1, hx368_2, hx368_3, hl368_3, hi368_3⟩ := at_T46 HR1.out x5_1 p368 q368
                      obtain rfl : ad362 = ad368 := (by injection e368)
                      have HR368_3 := Aside0.mk hi368_3
                      have HC368_3 := Aside0.mk hl368_3
                      clear hi368_3 hl368_3
                      replace p368 := eq_true p368
                      replace q368 := eq_true q368
                      have ea_ := Option.some.inj (hx362_3.symm.trans hx368_3)
                      injection ea_ with ea_ en_ ec_
                      subst ea_
                      subst ec_
                      clear en_
                      have hcv20 := fun m_ : Nat => Kd.C_string (P := Try.prog) (A := A362_3) (c := c362_3) Try.underlying28 Try.underlying5 Try.underlying9 (Kd.C_drewN HR368_3.out m_)
                      have hcv22 := Kd.C_string (P := Try.prog) (A := A362_3) (c := c362_3) Try.underlying28 Try.underlying5 Try.underlying9 HR368_3.out
                      go_wp2
                      repeat (go_quiet (fail); try go_wp2)
                      go_ret
                      exact ⟨by first | rfl | (simp; done) | (simp [*]; done), by repeat (first | exact Drawn0.refl _ | apply Drawn0.step)⟩
                  · rw [if_neg c9] at H
                    have c9b0 : (((rd_T46 l0 x5_1).f2) == ((rd_T46 l1 x5_1).f2)) = false := beq_eq_false_iff_ne.mpr c9
                    have c9b1 : (((rd_T46 l0 x5_1).f2) != ((rd_T46 l1 x5_1).f2)) = true := bne_iff_ne.mpr c9
                    obtain rfl := Option.some.inj H
                    have p361 : 0 ≤ (x5_1 : Int) := of_decide_eq_true (by first | (with_reducible assumption) | assumption)
                    have q361 : x5_1 < (l0.length : Int) := of_decide_eq_true (by first | (with_reducible assumption) | assumption)
                    obtain ⟨ad361, A361_3, c361_3, e361, hx361_0, hx361_1, hx361_2, hx361_3, hl361_3, hi361_3⟩ := at_T46 HR0.out x5_1 p361 q361
                    cases e361
                    have HR361_3 := Aside0.mk hi361_3
                    have HC361_3 := Aside0.mk hl361_3
                    clear hi361_3 hl361_3
                    replace p361 := eq_true p361
                    replace q361 := eq_true q361
                    have p362 : 0 ≤ (x5_1 : Int) := of_decide_eq_true (by first | (with_reducible assumption) | assumption)
                    have q362 : x5_1 < (l1.length : Int) := of_decide_eq_true (by first | (with_reducible assumption) | assumption)
                    obtain ⟨ad362, A362_3, c362_3, e362, hx362_0, hx362_1, hx362_2, hx362_3, hl362_3, hi362_3⟩ := at_T46 HR1.out x5_1 p362 q362
                    cases e362
                    have HR362_3 := Aside0.mk hi362_3
                    have HC362_3 := Aside0.mk hl362_3
                    clear hi362_3 hl362_3
                    replace p362 := eq_true p362
                    replace q362 := eq_true q362
                    have p363 : 0 ≤ (x5_1 : Int) := of_decide_eq_true (by first | (with_reducible assumption) | assumption)
                    have q363 : x5_1 < (l0.length : Int) := of_decide_eq_true (by first | (with_reducible assumption) | assumption)
                    obtain ⟨ad363, A363_3, c363_3, e363, hx363_0, hx363_1, hx363_2, hx363_3, hl363_3, hi363_3⟩ := at_T46 HR0.out x5_1 p363 q363
                    obtain rfl : ad361 = ad363 := (by injection e363)
                    have HR363_3 := Aside0.mk hi363_3
                    have HC363_3 := Aside0.mk hl363_3
                    clear hi363_3 hl363_3
                    replace p363 := eq_true p363
                    replace q363 := eq_true q363
                    have ea_ := Option.some.inj (hx361_3.symm.trans hx363_3)
                    injection ea_ with ea_ en_ ec_
                    subst ea_
                    subst ec_
                    clear en_
                    have p364 : 0 ≤ (x5_1 : Int) := of_decide_eq_true (by first | (with_reducible assumption) | assumption)
                    have q364 : x5_1 < (l1.length : Int) := of_decide_eq_true (by first | (with_reducible assumption) | assumption)
                    obtain ⟨ad364, A364_3, c364_3, e364, hx364_0, hx364_1, hx364_2, hx364_3, hl364_3, hi364_3⟩ := at_T46 HR1.out x5_1 p364 q364
                    obtain rfl : ad362 = ad364 := (by injection e364)
                    have HR364_3 := Aside0.mk hi364_3
                    have HC364_3 := Aside0.mk hl364_3
                    clear hi364_3 hl364_3
                    replace p364 := eq_true p364
                    replace q364 := eq_true q364
                    have ea_ := Option.some.inj (hx362_3.symm.trans hx364_3)
                    injection ea_ with ea_ en_ ec_
                    subst ea_
                    subst ec_
                    clear en_
                    have p365 : 0 ≤ (x5_1 : Int) := of_decide_eq_true (by first | (with_reducible assumption) | assumption)
                    have q365 : x5_1 < (l0.length : Int) := of_decide_eq_true (by first | (with_reducible assumption) | assumption)
                    obtain ⟨ad365, A365_3, c365_3, e365, hx365_0, hx365_1, hx365_2, hx365_3, hl365_3, hi365_3⟩ := at_T46 HR0.out x5_1 p365 q365
                    obtain rfl : ad361 = ad365 := (by injection e365)
                    have HR365_3 := Aside0.mk hi365_3
                    have HC365_3 := Aside0.mk hl365_3
                    clear hi365_3 hl365_3
                    replace p365 := eq_true p365
                    replace q365 := eq_true q365
                    have ea_ := Option.some.inj (hx361_3.symm.trans hx365_3)
                    injection ea_ with ea_ en_ ec_
                    subst ea_
                    subst ec_
                    clear en_
                    have p366 : 0 ≤ (x5_1 : Int) := of_decide_eq_true (by first | (with_reducible assumption) | assumption)
                    have q366 : x5_1 < (l1.length : Int) := of_decide_eq_true (by first | (with_reducible assumption) | assumption)
                    obtain ⟨ad366, A366_3, c366_3, e366, hx366_0, hx366_1, hx366_2, hx366_3, hl366_3, hi366_3⟩ := at_T46 HR1.out x5_1 p366 q366
                    obtain rfl : ad362 = ad366 := (by injection e366)
                    have HR366_3 := Aside0.mk hi366_3
                    have HC366_3 := Aside0.mk hl366_3
                    clear hi366_3 hl366_3
                    replace p366 := eq_true p366
                    replace q366 := eq_true q366
                    have ea_ := Option.some.inj (hx362_3.symm.trans hx366_3)
                    injection ea_ with ea_ en_ ec_
                    subst ea_
                    subst ec_
                    clear en_
                    go_wp2
                    repeat (go_quiet (fail); try go_wp2)
                    go_ret
                    exact ⟨by first | rfl | (simp; done) | (simp [*]; done), by repeat (first | exact Drawn0.refl _ | apply Drawn0.step)⟩
                · rw [if_neg c8] at H
                  have c8b0 : (((rd_T46 l0 x5_1).f1) == ((rd_T46 l1 x5_1).f1)) = false := beq_eq_false_iff_ne.mpr c8
                  have c8b1 : (((rd_T46 l0 x5_1).f1) != ((rd_T46 l1 x5_1).f1)) = true := bne_iff_ne.mpr c8
                  obtain rfl := Option.some.inj H
                  have p361 : 0 ≤ (x5_1 : Int) := of_decide_eq_true (by first | (with_reducible assumption) | assumption)
                  have q361 : x5_1 < (l0.length : Int) := of_decide_eq_true (by first | (with_reducible assumption) | assumption)
                  obtain ⟨ad361, A361_3, c361_3, e361, hx361_0, hx361_1, hx361_2, hx361_3, hl361_3, hi361_3⟩ := at_T46 HR0.out x5_1 p361 q361
                  cases e361
                  have HR361_3 := Aside0.mk hi361_3
                  have HC361_3 := Aside0.mk hl361_3
                  clear hi361_3 hl361_3
                  replace p361 := eq_true p361
                  replace q361 := eq_true q361
                  have p362 : 0 ≤ (x5_1 : Int) := of_decide_eq_true (by first | (with_reducible assumption) | assumption)
                  have q362 : x5_1 < (l1.length : Int) := of_decide_eq_true (by first | (with_reducible assumption) | assumption)
                  obtain ⟨ad362, A362_3, c362_3, e362, hx362_0, hx362_1, hx362_2, hx362_3, hl362_3, hi362_3⟩ := at_T46 HR1.out x5_1 p362 q362
                  cases e362
                  have HR362_3 := Aside0.mk hi362_3
                  have HC362_3 := Aside0.mk hl362_3
                  clear hi362_3 hl362_3
                  replace p362 := eq_true p362
                  replace q362 := eq_true q362
                  have p363 : 0 ≤ (x5_1 : Int) := of_decide_eq_true (by first | (with_reducible assumption) | assumption)
                  have q363 : x5_1 < (l0.length : Int) := of_decide_eq_true (by first | (with_reducible assumption) | assumption)
                  obtain ⟨ad363, A363_3, c363_3, e363, hx363_0, hx363_1, hx363_2, hx363_3, hl363_3, hi363_3⟩ := at_T46 HR0.out x5_1 p363 q363
                  obtain rfl : ad361 = ad363 := (by injection e363)
                  have HR363_3 := Aside0.mk hi363_3
                  have HC363_3 := Aside0.mk hl363_3
                  clear hi363_3 hl363_3
                  replace p363 := eq_true p363
                  replace q363 := eq_true q363
                  have ea_ := Option.some.inj (hx361_3.symm.trans hx363_3)
                  injection ea_ with ea_ en_ ec_
                  subst ea_
                  subst ec_
                  clear en_
                  have p364 : 0 ≤ (x5_1 : Int) := of_decide_eq_true (by first | (with_reducible assumption) | assumption)
                  have q364 : x5_1 < (l1.length : Int) := of_decide_eq_true (by first | (with_reducible assumption) | assumption)
                  obtain ⟨ad364, A364_3, c364_3, e364, hx364_0, hx364_1, hx364_2, hx364_3, hl364_3, hi364_3⟩ := at_T46 HR1.out x5_1 p364 q364
                  obtain rfl : ad362 = ad364 := (by injection e364)
                  have HR364_3 := Aside0.mk hi364_3
                  have HC364_3 := Aside0.mk hl364_3
                  clear hi364_3 hl364_3
                  replace p364 := eq_true p364
                  replace q364 := eq_true q364
                  have ea_ := Option.some.inj (hx362_3.symm.trans hx364_3)
                  injection ea_ with ea_ en_ ec_
                  subst ea_
                  subst ec_
                  clear en_
                  go_wp2
                  repeat (go_quiet (fail); try go_wp2)
                  go_ret
                  exact ⟨by first | rfl | (simp; done) | (simp [*]; done), by repeat (first | exact Drawn0.refl _ | apply Drawn0.step)⟩
              · rw [if_neg c7] at H
                have c7b0 : (((rd_T46 l0 x5_1).f0) == ((rd_T46 l1 x5_1).f0)) = false := beq_eq_false_iff_ne.mpr c7
                have c7b1 : (((rd_T46 l0 x5_1).f0) != ((rd_T46 l1 x5_1).f0)) = true := bne_iff_ne.mpr c7
                obtain rfl := Option.some.inj H
                have p361 : 0 ≤ (x5_1 : Int) := of_decide_eq_true (by first | (with_reducible assumption) | assumption)
                have q361 : x5_1 < (l0.length : Int) := of_decide_eq_true (by first | (with_reducible assumption) | assumption)
                obtain ⟨ad361, A361_3, c361_3, e361, hx361_0, hx361_1, hx361_2, hx361_3, hl361_3, hi361_3⟩ := at_T46 HR0.out x5_1 p361 q361
                cases e361
                have HR361_3 := Aside0.mk hi361_3
                have HC361_3 := Aside0.mk hl361_3
                clear hi361_3 hl361_3
                replace p361 := eq_true p361
                replace q361 := eq_true q361
                have p362 : 0 ≤ (x5_1 : Int) := of_decide_eq_true (by first | (with_reducible assumption) | assumption)
                have q362 : x5_1 < (l1.length : Int) := of_decide_eq_true (by first | (with_reducible assumption) | assumption)
                obtain ⟨ad362, A362_3, c362_3, e362, hx362_0, hx362_1, hx362_2, hx362_3, hl362_3, hi362_3⟩ := at_T46 HR1.out x5_1 p362 q362
                cases e362
                have HR362_3 := Aside0.mk hi362_3
                have HC362_3 := Aside0.mk hl362_3
                clear hi362_3 hl362_3
                replace p362 := eq_true p362
                replace q362 := eq_true q362
                go_wp2
                repeat (go_quiet (fail); try go_wp2)
                go_ret
                exact ⟨by first | rfl | (simp; done) | (simp [*]; done), by repeat (first | exact Drawn0.refl _ | apply Drawn0.step)⟩
            · rw [if_neg c6] at H
              exact absurd H (by simp)
          · rw [if_neg c5] at H
            exact absurd H (by simp)
        · rw [if_neg c4] at H
          have c4b0 : decide (x5_1 < (l0.length : Int)) = false := decide_eq_false c4
          clear c4
          obtain rfl := Option.some.inj H
          go_wp2
          repeat (go_quiet (fail); try go_wp2)
          go_ret
          exact ⟨by first | rfl | (simp; done) | (simp [*]; done), by repeat (first | exact Drawn0.refl _ | apply Drawn0.step)⟩
  · rw [if_neg c3] at H
    have c3b0 : ((l0.length : Int) == (l1.length : Int)) = false := beq_eq_false_iff_ne.mpr c3
    have c3b1 : ((l0.length : Int) != (l1.length : Int)) = true := bne_iff_ne.mpr c3
    have c3b2 : (l0.length == l1.length) = false := by first | simpa using c3 | (simp at c3 ⊢; omega)
    obtain rfl := Option.some.inj H
    go_enter Try.func23, Try.ntmps23
    go_wp2
    repeat (go_quiet (fail); try go_wp2)
    go_ret
    exact ⟨by first | rfl | (simp; done) | (simp [*]; done), by repeat (first | exact Drawn0.refl _ | apply Drawn0.step)⟩

end Go.Proofs.Ytnjimecjpnjojaa.Print
