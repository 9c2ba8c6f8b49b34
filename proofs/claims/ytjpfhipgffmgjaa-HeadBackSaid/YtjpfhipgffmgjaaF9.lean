-- laid by this session's own program (wip/mkprint.sh) for this claim
import Derived.Test.Ytjpfhipgffmgjaa0
import Derived.Test.YtjpfhipgffmgjaaF20
import Derived.Test.YtjpfhipgffmgjaaF21
import Derived.Test.YtjpfhipgffmgjaaF23
import Derived.Test.YtjpfhipgffmgjaaF25
import Derived.Test.YtjpfhipgffmgjaaF27
namespace Go.Proofs.Ytjpfhipgffmgjaa.Print
open Go.RowKit Go.Proofs.YtjpfhipgffmgjaaW.PrintWords Go.Proofs.YtjpfhipgffmgjaaW.PrintLast Go.Proofs.YtjpfhipgffmgjaaW.PrintMore
attribute [local go_sem] max2_int min2_int max_two min_two max_three min_three max_four min_four   -- for this text's walks alone
set_option linter.unusedVariables false
set_option linter.unusedSimpArgs false

/-! ### umpirelaw08_HeadBack: function 9 -/
mutual
def umpirelaw08_HeadBack.j0 : Nat → Int → Bool → Bool → List Int → Int → Bool → Option (Bool)
  | 0, _, _, _, _, _, _ => none
  | k + 1, x0, x1, x2, x3, x4, x24 => if x24 = true then ((umpirelaw08_awake.f k).bind fun t463 => (some t463)) else ((head_Put.f x0 x1 x2).bind fun bt464 => (if bt464.2 = 0 then (umpirelaw08_HeadBack.j1 k x0 x3 x4 bt464.1 ((bt464.1.length : Int) == 0)) else (umpirelaw08_HeadBack.j1 k x0 x3 x4 bt464.1 true)))
def umpirelaw08_HeadBack.j1 : Nat → Int → List Int → Int → List Int → Bool → Option (Bool)
  | 0, _, _, _, _, _ => none
  | k + 1, x0, x3, x4, x11, x39 => if x39 = true then ((head_May.f x0).bind fun t468 => (some (!t468))) else ((some (([] : List Int) : List Int)).bind fun y469 => (if y469.length + x11.length < 140737488355328 then ((some (y469 ++ x11 : List Int)).bind fun y472 => (if y472.length + x3.length < 140737488355328 then ((head_Body.f k (y472 ++ x3)).bind fun bt478 => (if (x11.length : Int) = 0 then (none) else (if 0 ≤ (Int.tmod (wrap64 (x4)) (x11.length : Int)) then (if (Int.tmod (wrap64 (x4)) (x11.length : Int)) ≤ (x11.length : Int) then ((head_Read.f k (x11.take ((Int.tmod (wrap64 (x4)) (x11.length : Int)) : Int).toNat)).bind fun bt487 => ((head_May.f x0).bind fun t491 => (if t491 = true then (if bt478.2.2 = 0 then (if bt478.1 = x0 then (if (strOfNums bt478.2.1).toList = (strOfNums x3).toList then (some (bt487.2.2 == 2)) else (none)) else (none)) else (none)) else (none)))) else (none)) else (none)))) else (none))) else (none)))
end
def umpirelaw08_HeadBack.f (k : Nat) (a0 : Int) (a1 : Bool) (a2 : Bool) (l3 : List Int) (a4 : Int) : Option (Bool) := (umpirelaw08_awake.f k).bind fun t462 => (if t462 = true then (umpirelaw08_HeadBack.j0 k a0 a1 a2 l3 a4 (decide ((l3.length : Int) > 1000))) else (umpirelaw08_HeadBack.j0 k a0 a1 a2 l3 a4 true))
theorem umpirelaw08_HeadBack.mono_l : ∀ k, (∀ y0 y1 y2 y3 y4 y5, LeO (umpirelaw08_HeadBack.j0 k y0 y1 y2 y3 y4 y5) (umpirelaw08_HeadBack.j0 (k + 1) y0 y1 y2 y3 y4 y5)) ∧ (∀ y0 y1 y2 y3 y4, LeO (umpirelaw08_HeadBack.j1 k y0 y1 y2 y3 y4) (umpirelaw08_HeadBack.j1 (k + 1) y0 y1 y2 y3 y4))
  | 0 => ⟨fun _ _ _ _ _ _ r h => by simp [umpirelaw08_HeadBack.j0] at h, fun _ _ _ _ _ r h => by simp [umpirelaw08_HeadBack.j1] at h⟩
  | k + 1 => by
    obtain ⟨ih0, ih1⟩ := umpirelaw08_HeadBack.mono_l k
    refine ⟨?_, ?_⟩
    · intro y0 y1 y2 y3 y4 y5
      unfold umpirelaw08_HeadBack.j0
      repeat' first
      | (with_reducible exact ih0 _ _ _ _ _ _)
      | (with_reducible exact ih1 _ _ _ _ _)
      | (with_reducible exact head_Body.mono _ _)
      | (with_reducible exact head_Read.mono _ _)
      | (with_reducible exact umpirelaw08_awake.mono _)
      | (with_reducible exact LeO.refl _)
      | (with_reducible exact LeO.none _)
      | (with_reducible refine LeO.ite ?_ ?_)
      | (with_reducible refine LeO.bind ?_ (fun _ => ?_))
      | exact ih0 _ _ _ _ _ _
      | exact ih1 _ _ _ _ _
      | exact head_Body.mono _ _
      | exact head_Read.mono _ _
      | exact umpirelaw08_awake.mono _
      | exact LeO.none _
      | refine LeO.ite ?_ ?_
      | refine LeO.bind ?_ (fun _ => ?_)
    · intro y0 y1 y2 y3 y4
      unfold umpirelaw08_HeadBack.j1
      repeat' first
      | (with_reducible exact ih0 _ _ _ _ _ _)
      | (with_reducible exact ih1 _ _ _ _ _)
      | (with_reducible exact head_Body.mono _ _)
      | (with_reducible exact head_Read.mono _ _)
      | (with_reducible exact umpirelaw08_awake.mono _)
      | (with_reducible exact LeO.refl _)
      | (with_reducible exact LeO.none _)
      | (with_reducible refine LeO.ite ?_ ?_)
      | (with_reducible refine LeO.bind ?_ (fun _ => ?_))
      | exact ih0 _ _ _ _ _ _
      | exact ih1 _ _ _ _ _
      | exact head_Body.mono _ _
      | exact head_Read.mono _ _
      | exact umpirelaw08_awake.mono _
      | exact LeO.none _
      | refine LeO.ite ?_ ?_
      | refine LeO.bind ?_ (fun _ => ?_)
theorem umpirelaw08_HeadBack.mono : ∀ a0 a1 a2 a3 a4 k, LeO (umpirelaw08_HeadBack.f k a0 a1 a2 a3 a4) (umpirelaw08_HeadBack.f (k + 1) a0 a1 a2 a3 a4) := by
  intro a0 a1 a2 a3 a4 k
  obtain ⟨ih0, ih1⟩ := umpirelaw08_HeadBack.mono_l k
  unfold umpirelaw08_HeadBack.f
  repeat' first
      | (with_reducible exact ih0 _ _ _ _ _ _)
      | (with_reducible exact ih1 _ _ _ _ _)
      | (with_reducible exact head_Body.mono _ _)
      | (with_reducible exact head_Read.mono _ _)
      | (with_reducible exact umpirelaw08_awake.mono _)
      | (with_reducible exact LeO.refl _)
      | (with_reducible exact LeO.none _)
      | (with_reducible refine LeO.ite ?_ ?_)
      | (with_reducible refine LeO.bind ?_ (fun _ => ?_))
      | exact ih0 _ _ _ _ _ _
      | exact ih1 _ _ _ _ _
      | exact head_Body.mono _ _
      | exact head_Read.mono _ _
      | exact umpirelaw08_awake.mono _
      | exact LeO.none _
      | refine LeO.ite ?_ ?_
      | refine LeO.bind ?_ (fun _ => ?_)
set_option maxHeartbeats 8000000 in
set_option maxRecDepth 100000 in
theorem umpirelaw08_HeadBack.calls (k : Nat) (a0 : Int) (a1 : Bool) (a2 : Bool) (A3 : Option Addr) (c3 : Nat) (l3 : List Int) (a4 : Int) (r : Bool) (w : World) (hr3 : Kd.C (Kd.int .u8) w A3 l3.length l3) (hc3 : l3.length ≤ c3) (h : umpirelaw08_HeadBack.f k a0 a1 a2 l3 a4 = some r) :
    Calls Try.prog 9 #[.int .i64 a0, .bool a1, .bool a2, .slice A3 l3.length c3, .int .u8 a4] w fun e w' => e = .returned (.bool r) ∧ Below w.heap.size w w' := by
  have hu43 := Try.underlying43
  have HR3 := Aside0.mk hr3
  have HC3 := Aside0.mk hc3
  clear hr3 hc3
  have HB := Aside0.mk (Below.refl w.heap.size w)
  have H : ((umpirelaw08_awake.f k).bind fun t462 => (if t462 = true then (umpirelaw08_HeadBack.j0 k a0 a1 a2 l3 a4 (decide ((l3.length : Int) > 1000))) else (umpirelaw08_HeadBack.j0 k a0 a1 a2 l3 a4 true))) = some r := h
  clear h
  have HC6 := Aside0.mk H
  clear H
  go_enter Try.func9, Try.ntmps9
  go_upto_region 1 with (fail)
  go_cut [24] (fun v24 wc => ∃ (kq : Nat) (x24_5 : Bool), v24 = .bool x24_5 ∧ Aside0 (umpirelaw08_HeadBack.j0 kq a0 a1 a2 l3 a4 x24_5 = some r) ∧ Aside0 (kq ≤ k) ∧ Aside0 (Below w.heap.size w wc))
  case first =>
    have H := HC6.out
    clear HC6
    replace H := Option.bind_eq_some_iff.mp H
    obtain ⟨t462, A70, H⟩ := H
    replace H : (if t462 = true then (umpirelaw08_HeadBack.j0 k a0 a1 a2 l3 a4 (decide ((l3.length : Int) > 1000))) else (umpirelaw08_HeadBack.j0 k a0 a1 a2 l3 a4 true)) = some r := H
    have A7 := Aside0.mk A70
    clear A70
    by_cases c8 : t462 = true
    · subst c8
      have H1 : (umpirelaw08_HeadBack.j0 k a0 a1 a2 l3 a4 (decide ((l3.length : Int) > 1000))) = some r := by rw [if_pos rfl] at H; exact H
      clear H
      have H := H1
      clear H1
      have H' := Aside0.mk H
      clear H
      go_wp2_with (first | ((with_reducible refine gate_callee (f := 20) rfl ?_); refine goesL_ (some 18) rfl rfl Try.func20 (by kernel_rfl) rfl #[] rfl (by (try simp only [List.map_toArray, List.map_cons, List.map_nil]); first | done | rfl | (simp only [List.length_drop, List.length_take]; rfl)) ?_; (with_reducible refine (umpirelaw08_awake.calls k  true _ A7.out).mono ?_); rintro e w9 ⟨rfl, hb⟩; refine ⟨_, rfl, ?_⟩; have n0_ := Aside0.mk (below_step (by repeat (first | (with_reducible first | exact HB.out | apply below_alloc | apply pw_below_drewN | apply below_drew1) | exact HB.out)) hb); clear HB; have HB := n0_; clear n0_; (try clear hb); (try clear hb2); (try clear hk); (try clear hi)))
      go_meet
      case rel => exact ⟨_, (decide ((l3.length : Int) > 1000)), (by first | rfl | (simp; done) | (simp [*]; done)), H', ⟨by first | omega | exact Nat.le_refl _⟩, ⟨by repeat (first | (with_reducible first | exact HB.out | apply below_alloc | apply pw_below_drewN | apply below_drew1) | exact HB.out)⟩⟩
    · replace c8 := Bool.eq_false_iff.mpr c8
      subst c8
      have H1 : (umpirelaw08_HeadBack.j0 k a0 a1 a2 l3 a4 true) = some r := by rw [if_neg (show ¬ (false = true) by decide)] at H; exact H
      clear H
      have H := H1
      clear H1
      have H' := Aside0.mk H
      clear H
      go_wp2_with (first | ((with_reducible refine gate_callee (f := 20) rfl ?_); refine goesL_ (some 18) rfl rfl Try.func20 (by kernel_rfl) rfl #[] rfl (by (try simp only [List.map_toArray, List.map_cons, List.map_nil]); first | done | rfl | (simp only [List.length_drop, List.length_take]; rfl)) ?_; (with_reducible refine (umpirelaw08_awake.calls k  false _ A7.out).mono ?_); rintro e w10 ⟨rfl, hb⟩; refine ⟨_, rfl, ?_⟩; have n0_ := Aside0.mk (below_step (by repeat (first | (with_reducible first | exact HB.out | apply below_alloc | apply pw_below_drewN | apply below_drew1) | exact HB.out)) hb); clear HB; have HB := n0_; clear n0_; (try clear hb); (try clear hb2); (try clear hk); (try clear hi)))
      go_meet
      case rel => exact ⟨_, (true), (by first | rfl | (simp; done) | (simp [*]; done)), H', ⟨by first | omega | exact Nat.le_refl _⟩, ⟨by repeat (first | (with_reducible first | exact HB.out | apply below_alloc | apply pw_below_drewN | apply below_drew1) | exact HB.out)⟩⟩
  case rest =>
    clear HC6
    try clear c2
    try clear p2
    try clear c3
    try clear c8
    try clear c9
    obtain ⟨kq, x24_5, rfl, HA, HJ5, HB⟩ := hcut
    cases kq with
    | zero => exact absurd HA.out (by simp [umpirelaw08_HeadBack.j0])
    | succ kj5 =>
      have H := HA.out
      clear HA
      simp only [umpirelaw08_HeadBack.j0] at H
      by_cases c11 : x24_5 = true
      · subst c11
        have H1 : ((umpirelaw08_awake.f kj5).bind fun t463 => (some t463)) = some r := by rw [if_pos rfl] at H; exact H
        clear H
        have H := H1
        clear H1
        replace H := Option.bind_eq_some_iff.mp H
        obtain ⟨t463, A120, H⟩ := H
        replace H : (some t463) = some r := H
        have A12 := Aside0.mk A120
        clear A120
        obtain rfl := Option.some.inj H
        go_wp2_with (first | ((with_reducible refine gate_callee (f := 20) rfl ?_); refine goesL_ (some 25) rfl rfl Try.func20 (by kernel_rfl) rfl #[] rfl (by (try simp only [List.map_toArray, List.map_cons, List.map_nil]); first | done | rfl | (simp only [List.length_drop, List.length_take]; rfl)) ?_; (with_reducible refine (umpirelaw08_awake.calls kj5  t463 _ A12.out).mono ?_); rintro e w13 ⟨rfl, hb⟩; refine ⟨_, rfl, ?_⟩; have n0_ := Aside0.mk (below_step (by repeat (first | (with_reducible first | exact HB.out | apply below_alloc | apply pw_below_drewN | apply below_drew1) | exact HB.out)) hb); clear HB; have HB := n0_; clear n0_; (try clear hb); (try clear hb2); (try clear hk); (try clear hi)))
        go_ret
        exact ⟨by first | rfl | (simp [errW_none, errW_some] <;> rfl) | (simp [*, errW_none, errW_some] <;> rfl), by repeat (first | (with_reducible first | exact HB.out | apply below_alloc | apply pw_below_drewN | apply below_drew1) | exact HB.out)⟩
      · replace c11 := Bool.eq_false_iff.mpr c11
        subst c11
        have H1 : ((head_Put.f a0 a1 a2).bind fun bt464 => (if bt464.2 = 0 then (umpirelaw08_HeadBack.j1 kj5 a0 l3 a4 bt464.1 ((bt464.1.length : Int) == 0)) else (umpirelaw08_HeadBack.j1 kj5 a0 l3 a4 bt464.1 true))) = some r := by rw [if_neg (show ¬ (false = true) by decide)] at H; exact H
        clear H
        have H := H1
        clear H1
        replace H := Option.bind_eq_some_iff.mp H
        obtain ⟨⟨t464, t465⟩, A140, H⟩ := H
        replace H : (if t465 = 0 then (umpirelaw08_HeadBack.j1 kj5 a0 l3 a4 t464 ((t464.length : Int) == 0)) else (umpirelaw08_HeadBack.j1 kj5 a0 l3 a4 t464 true)) = some r := H
        have A14 := Aside0.mk A140
        clear A140
        have HC15 := Aside0.mk H
        clear H
        go_upto_region 4 with (first | ((with_reducible refine gate_callee (f := 21) rfl ?_); refine goesL_ (some 30) rfl rfl Try.func21 (by kernel_rfl) rfl #[.int .i64 a0, .bool a1, .bool a2] rfl (by (try simp only [List.map_toArray, List.map_cons, List.map_nil]); first | done | rfl | (simp only [List.length_drop, List.length_take]; rfl)) ?_; (with_reducible refine (head_Put.calls a0 a1 a2 t464 t465 _ A14.out).mono ?_); rintro e w16 ⟨v466, rfl, ho0, hb⟩; refine ⟨_, rfl, ?_⟩; have n0_ := Aside0.mk (Kd.R_lower ho0 (below_size (by repeat (first | (with_reducible first | exact HB.out | apply below_alloc | apply pw_below_drewN | apply below_drew1) | exact HB.out)))); have n1_ := Aside0.mk (below_step (by repeat (first | (with_reducible first | exact HB.out | apply below_alloc | apply pw_below_drewN | apply below_drew1) | exact HB.out)) hb); clear HB; have HO467 := n0_; have HB := n1_; clear n0_ n1_; (try clear hb); (try clear hb2); (try clear hk); (try clear hi); (try clear ho0)))
        (try simp only [Act.put, List.setIfInBounds_toArray, List.set_cons_zero, List.set_cons_succ])
        go_cut [39] (fun v39 wc => ∃ (kq : Nat) (x39_14 : Bool), v39 = .bool x39_14 ∧ Aside0 (umpirelaw08_HeadBack.j1 kq a0 l3 a4 t464 x39_14 = some r) ∧ Aside0 (kq ≤ kj5) ∧ Aside0 (Kd.R (Kd.int .u8) 5 wc w.heap.size (fun _ => True) v466 t464) ∧ Aside0 (Below w.heap.size w wc))
        case first =>
          have H := HC15.out
          clear HC15
          by_cases c17 : t465 = 0
          · rw [if_pos c17] at H
            have c17b0 : (t465 == 0) = true := beq_iff_eq.mpr c17
            have c17b1 : (t465 != 0) = false := bne_eq_false_iff_eq.mpr c17
            clear c17
            (first | rw [c17b0] | (simp only [i64_w, i32_w]; rw [c17b0]) | skip)
            have H' := Aside0.mk H
            clear H
            obtain ⟨Ao18, co18, eo18⟩ := Kd.R_slice HO467.out
            subst eo18
            go_wp2
            go_meet
            case rel => exact ⟨_, (((t464.length : Int) == 0)), (by first | rfl | (simp; done) | (simp [*]; done)), H', ⟨by have := HJ5.out; first | omega | exact Nat.le_refl _⟩, ⟨by (with_reducible repeat (first | apply Kd.R_alloc | apply Kd.R_drewN | apply Kd.R_drew)); exact HO467.out⟩, ⟨by repeat (first | (with_reducible first | exact HB.out | apply below_alloc | apply pw_below_drewN | apply below_drew1) | exact HB.out)⟩⟩
          · rw [if_neg c17] at H
            have c17b0 : (t465 == 0) = false := beq_eq_false_iff_ne.mpr c17
            have c17b1 : (t465 != 0) = true := bne_iff_ne.mpr c17
            (first | rw [c17b0] | (simp only [i64_w, i32_w]; rw [c17b0]) | skip)
            have H' := Aside0.mk H
            clear H
            go_wp2
            go_meet
            case rel => exact ⟨_, (true), (by first | rfl | (simp; done) | (simp [*]; done)), H', ⟨by have := HJ5.out; first | omega | exact Nat.le_refl _⟩, ⟨by (with_reducible repeat (first | apply Kd.R_alloc | apply Kd.R_drewN | apply Kd.R_drew)); exact HO467.out⟩, ⟨by repeat (first | (with_reducible first | exact HB.out | apply below_alloc | apply pw_below_drewN | apply below_drew1) | exact HB.out)⟩⟩
        case rest =>
          clear HC15
          try clear c1
          try clear c2
          try clear p2
          try clear c3
          try clear c8
          try clear c9
          try clear c11
          try clear c17
          try clear c17b0
          try clear c17b1
          try clear p2
          obtain ⟨kq, x39_14, rfl, HA, HJ14, HO_11, HB⟩ := hcut
          cases kq with
          | zero => exact absurd HA.out (by simp [umpirelaw08_HeadBack.j1])
          | succ kj14 =>
            have H := HA.out
            clear HA
            simp only [umpirelaw08_HeadBack.j1] at H
            by_cases c19 : x39_14 = true
            · subst c19
              have H1 : ((head_May.f a0).bind fun t468 => (some (!t468))) = some r := by rw [if_pos rfl] at H; exact H
              clear H
              have H := H1
              clear H1
              replace H := Option.bind_eq_some_iff.mp H
              obtain ⟨t468, A200, H⟩ := H
              replace H : (some (!t468)) = some r := H
              have A20 := Aside0.mk A200
              clear A200
              obtain rfl := Option.some.inj H
              go_wp2_with (first | ((with_reducible refine gate_callee (f := 23) rfl ?_); refine goesL_ (some 41) rfl rfl Try.func23 (by kernel_rfl) rfl #[.int .i64 a0] rfl (by (try simp only [List.map_toArray, List.map_cons, List.map_nil]); first | done | rfl | (simp only [List.length_drop, List.length_take]; rfl)) ?_; (with_reducible refine (head_May.calls a0 t468 _ A20.out).mono ?_); rintro e w' ⟨rfl, ⟨nd, rfl⟩⟩; refine ⟨_, rfl, ?_⟩))
              go_ret
              exact ⟨by first | rfl | (simp [errW_none, errW_some] <;> rfl) | (simp [*, errW_none, errW_some] <;> rfl), by repeat (first | (with_reducible first | exact HB.out | apply below_alloc | apply pw_below_drewN | apply below_drew1) | exact HB.out)⟩
            · replace c19 := Bool.eq_false_iff.mpr c19
              subst c19
              have H1 : ((some (([] : List Int) : List Int)).bind fun y469 => (if y469.length + t464.length < 140737488355328 then ((some (y469 ++ t464 : List Int)).bind fun y472 => (if y472.length + l3.length < 140737488355328 then ((head_Body.f kj14 (y472 ++ l3)).bind fun bt478 => (if (t464.length : Int) = 0 then (none) else (if 0 ≤ (Int.tmod (wrap64 (a4)) (t464.length : Int)) then (if (Int.tmod (wrap64 (a4)) (t464.length : Int)) ≤ (t464.length : Int) then ((head_Read.f kj14 (t464.take ((Int.tmod (wrap64 (a4)) (t464.length : Int)) : Int).toNat)).bind fun bt487 => ((head_May.f a0).bind fun t491 => (if t491 = true then (if bt478.2.2 = 0 then (if bt478.1 = a0 then (if (strOfNums bt478.2.1).toList = (strOfNums l3).toList then (some (bt487.2.2 == 2)) else (none)) else (none)) else (none)) else (none)))) else (none)) else (none)))) else (none))) else (none))) = some r := by rw [if_neg (show ¬ (false = true) by decide)] at H; exact H
              clear H
              have H := H1
              clear H1
              obtain ⟨y469, hy469⟩ : ∃ y_ : List Int, y_ = (([] : List Int)) := ⟨_, rfl⟩
              replace H : (if y469.length + t464.length < 140737488355328 then ((some (y469 ++ t464 : List Int)).bind fun y472 => (if y472.length + l3.length < 140737488355328 then ((head_Body.f kj14 (y472 ++ l3)).bind fun bt478 => (if (t464.length : Int) = 0 then (none) else (if 0 ≤ (Int.tmod (wrap64 (a4)) (t464.length : Int)) then (if (Int.tmod (wrap64 (a4)) (t464.length : Int)) ≤ (t464.length : Int) then ((head_Read.f kj14 (t464.take ((Int.tmod (wrap64 (a4)) (t464.length : Int)) : Int).toNat)).bind fun bt487 => ((head_May.f a0).bind fun t491 => (if t491 = true then (if bt478.2.2 = 0 then (if bt478.1 = a0 then (if (strOfNums bt478.2.1).toList = (strOfNums l3).toList then (some (bt487.2.2 == 2)) else (none)) else (none)) else (none)) else (none)))) else (none)) else (none)))) else (none))) else (none)) = some r := by first | (rw [hy469]; with_reducible exact H) | (have H2_ := (Option.bind_some _ _).symm.trans H; rw [hy469]; with_reducible exact H2_) | (have H2_ := (Option.bind_some _ _).symm.trans H; with_reducible exact H2_) | with_reducible exact H | (rw [hy469]; exact H) | exact H
              have Ny469 := Aside0.mk hy469
              clear hy469
              by_cases c21 : y469.length + t464.length < 140737488355328
              · rw [if_pos c21] at H
                have LMc21 := Aside0.mk c21
                clear c21
                obtain ⟨y472, hy472⟩ : ∃ y_ : List Int, y_ = (y469 ++ t464) := ⟨_, rfl⟩
                replace H : (if y472.length + l3.length < 140737488355328 then ((head_Body.f kj14 (y472 ++ l3)).bind fun bt478 => (if (t464.length : Int) = 0 then (none) else (if 0 ≤ (Int.tmod (wrap64 (a4)) (t464.length : Int)) then (if (Int.tmod (wrap64 (a4)) (t464.length : Int)) ≤ (t464.length : Int) then ((head_Read.f kj14 (t464.take ((Int.tmod (wrap64 (a4)) (t464.length : Int)) : Int).toNat)).bind fun bt487 => ((head_May.f a0).bind fun t491 => (if t491 = true then (if bt478.2.2 = 0 then (if bt478.1 = a0 then (if (strOfNums bt478.2.1).toList = (strOfNums l3).toList then (some (bt487.2.2 == 2)) else (none)) else (none)) else (none)) else (none)))) else (none)) else (none)))) else (none)) = some r := by first | (rw [hy472]; with_reducible exact H) | (have H2_ := (Option.bind_some _ _).symm.trans H; rw [hy472]; with_reducible exact H2_) | (have H2_ := (Option.bind_some _ _).symm.trans H; with_reducible exact H2_) | with_reducible exact H | (rw [hy472]; exact H) | exact H
                have Ny472 := Aside0.mk hy472
                clear hy472
                by_cases c22 : y472.length + l3.length < 140737488355328
                · rw [if_pos c22] at H
                  have LMc22 := Aside0.mk c22
                  clear c22
                  obtain ⟨y475, hy475⟩ : ∃ y_ : List Int, y_ = (y472 ++ l3) := ⟨_, rfl⟩
                  replace H : ((head_Body.f kj14 y475).bind fun bt478 => (if (t464.length : Int) = 0 then (none) else (if 0 ≤ (Int.tmod (wrap64 (a4)) (t464.length : Int)) then (if (Int.tmod (wrap64 (a4)) (t464.length : Int)) ≤ (t464.length : Int) then ((head_Read.f kj14 (t464.take ((Int.tmod (wrap64 (a4)) (t464.length : Int)) : Int).toNat)).bind fun bt487 => ((head_May.f a0).bind fun t491 => (if t491 = true then (if bt478.2.2 = 0 then (if bt478.1 = a0 then (if (strOfNums bt478.2.1).toList = (strOfNums l3).toList then (some (bt487.2.2 == 2)) else (none)) else (none)) else (none)) else (none)))) else (none)) else (none)))) = some r := by first | (rw [hy475]; with_reducible exact H) | (have H2_ := (Option.bind_some _ _).symm.trans H; rw [hy475]; with_reducible exact H2_) | (have H2_ := (Option.bind_some _ _).symm.trans H; with_reducible exact H2_) | with_reducible exact H | (rw [hy475]; exact H) | exact H
                  have Ny475 := Aside0.mk hy475
                  clear hy475
                  replace H := Option.bind_eq_some_iff.mp H
                  obtain ⟨⟨t478, t479, t480⟩, A230, H⟩ := H
                  replace H : (if (t464.length : Int) = 0 then (none) else (if 0 ≤ (Int.tmod (wrap64 (a4)) (t464.length : Int)) then (if (Int.tmod (wrap64 (a4)) (t464.length : Int)) ≤ (t464.length : Int) then ((head_Read.f kj14 (t464.take ((Int.tmod (wrap64 (a4)) (t464.length : Int)) : Int).toNat)).bind fun bt487 => ((head_May.f a0).bind fun t491 => (if t491 = true then (if t480 = 0 then (if t478 = a0 then (if (strOfNums t479).toList = (strOfNums l3).toList then (some (bt487.2.2 == 2)) else (none)) else (none)) else (none)) else (none)))) else (none)) else (none))) = some r := H
                  have A23 := Aside0.mk A230
                  clear A230
                  by_cases c24 : (t464.length : Int) = 0
                  · rw [if_pos c24] at H
                    exact absurd H (by simp)
                  · rw [if_neg c24] at H
                    have c24b0 : ((t464.length : Int) == 0) = false := beq_eq_false_iff_ne.mpr c24
                    have c24b1 : ((t464.length : Int) != 0) = true := bne_iff_ne.mpr c24
                    have c24b2 : ¬ (t464 = []) := fun h_ => c24 (by rw [h_]; rfl)
                    obtain ⟨ji25, hji25⟩ : ∃ j_ : Int, (Int.tmod (wrap64 (a4)) (t464.length : Int)) = j_ := ⟨_, rfl⟩
                    replace H : (if 0 ≤ (ji25) then (if (ji25) ≤ (t464.length : Int) then ((head_Read.f kj14 (t464.take ((ji25) : Int).toNat)).bind fun bt487 => ((head_May.f a0).bind fun t491 => (if t491 = true then (if t480 = 0 then (if t478 = a0 then (if (strOfNums t479).toList = (strOfNums l3).toList then (some (bt487.2.2 == 2)) else (none)) else (none)) else (none)) else (none)))) else (none)) else (none)) = some r := by first | (rw [hji25] at H; exact H) | (simp only [hji25] at H ⊢; exact H)
                    (try rw [hji25] at A23)
                    by_cases c26 : 0 ≤ (ji25)
                    · rw [if_pos c26] at H
                      have c26b0 := eq_true c26
                      have c26b1 : decide (0 ≤ (ji25)) = true := decide_eq_true c26
                      clear c26
                      by_cases c27 : (ji25) ≤ (t464.length : Int)
                      · rw [if_pos c27] at H
                        have c27b0 := eq_true c27
                        have c27b1 : decide ((ji25) ≤ (t464.length : Int)) = true := decide_eq_true c27
                        clear c27
                        obtain ⟨y483, hy483⟩ : ∃ y_ : List Int, y_ = (t464.take ((ji25) : Int).toNat) := ⟨_, rfl⟩
                        replace H : ((head_Read.f kj14 y483).bind fun bt487 => ((head_May.f a0).bind fun t491 => (if t491 = true then (if t480 = 0 then (if t478 = a0 then (if (strOfNums t479).toList = (strOfNums l3).toList then (some (bt487.2.2 == 2)) else (none)) else (none)) else (none)) else (none)))) = some r := by first | (rw [hy483]; with_reducible exact H) | (have H2_ := (Option.bind_some _ _).symm.trans H; rw [hy483]; with_reducible exact H2_) | (have H2_ := (Option.bind_some _ _).symm.trans H; with_reducible exact H2_) | with_reducible exact H | (rw [hy483]; exact H) | exact H
                        have Ny483 := Aside0.mk hy483
                        clear hy483
                        replace H := Option.bind_eq_some_iff.mp H
                        obtain ⟨⟨t487, t488, t489⟩, A280, H⟩ := H
                        replace H : ((head_May.f a0).bind fun t491 => (if t491 = true then (if t480 = 0 then (if t478 = a0 then (if (strOfNums t479).toList = (strOfNums l3).toList then (some (t489 == 2)) else (none)) else (none)) else (none)) else (none))) = some r := H
                        have A28 := Aside0.mk A280
                        clear A280
                        replace H := Option.bind_eq_some_iff.mp H
                        obtain ⟨t491, A290, H⟩ := H
                        replace H : (if t491 = true then (if t480 = 0 then (if t478 = a0 then (if (strOfNums t479).toList = (strOfNums l3).toList then (some (t489 == 2)) else (none)) else (none)) else (none)) else (none)) = some r := H
                        have A29 := Aside0.mk A290
                        clear A290
                        by_cases c30 : t491 = true
                        · subst c30
                          have H1 : (if t480 = 0 then (if t478 = a0 then (if (strOfNums t479).toList = (strOfNums l3).toList then (some (t489 == 2)) else (none)) else (none)) else (none)) = some r := by rw [if_pos rfl] at H; exact H
                          clear H
                          have H := H1
                          clear H1
                          by_cases c31 : t480 = 0
                          · rw [if_pos c31] at H
                            have c31b0 : (t480 == 0) = true := beq_iff_eq.mpr c31
                            have c31b1 : (t480 != 0) = false := bne_eq_false_iff_eq.mpr c31
                            clear c31
                            by_cases c32 : t478 = a0
                            · rw [if_pos c32] at H
                              have c32b0 : (t478 == a0) = true := beq_iff_eq.mpr c32
                              have c32b1 : (t478 != a0) = false := bne_eq_false_iff_eq.mpr c32
                              clear c32
                              by_cases c33 : (strOfNums t479).toList = (strOfNums l3).toList
                              · rw [if_pos c33] at H
                                have c33b0 : ((strOfNums t479).toList == (strOfNums l3).toList) = true := beq_iff_eq.mpr c33
                                have c33b1 : ((strOfNums t479).toList != (strOfNums l3).toList) = false := bne_eq_false_iff_eq.mpr c33
                                clear c33
                                obtain rfl := Option.some.inj H
                                go_wp2_with (first | ((with_reducible refine gate_dst (N := 44) rfl ?_); (try (refine gate_guard (by rfl) ?_; dsimp only)); refine Kd.R_lit (Kd.int .u8) _ 5 ?hg (N := 44) ?hd (xs := ([] : List Int)) (inner := []) (ok := fun _ => True) (okp := fun _ => True) ?hr ?hp (fun _ hk => hk) trivial (Below.refl _ _) (Nat.le_refl _) (by simp) ?_; (case hd => rfl); (case hg => rfl); (case hr => first | (go_simp; done) | (go_simp; rfl)); (case hp => exact (Reps.none _ _)); intro v470 w34 ho35 hb hg_ hnew_; clear hg_ hnew_; (first | rw [← Ny469.out] at ho35 | (simp only [Int.reduceToNat] at ho35; rw [← Ny469.out] at ho35)); have n0_ := Aside0.mk (Kd.R_elder' (by (with_reducible repeat (first | apply Kd.R_alloc | apply Kd.R_drewN | apply Kd.R_drew)); exact HO_11.out) (Kd.R_base ho35) hb); have n1_ := Aside0.mk (Kd.R_lower (Kd.R_new' ho35 (Kd.R_lt (by (with_reducible repeat (first | apply Kd.R_alloc | apply Kd.R_drewN | apply Kd.R_drew)); exact HO_11.out))) (below_size (by repeat (first | (with_reducible first | exact HB.out | apply below_alloc | apply pw_below_drewN | apply below_drew1) | exact HB.out)))); have n2_ := Aside0.mk (below_step (by repeat (first | (with_reducible first | exact HB.out | apply below_alloc | apply pw_below_drewN | apply below_drew1) | exact HB.out)) hb); clear HO_11; clear HB; have HO_11 := n0_; have HO471 := n1_; have HB := n2_; clear n0_ n1_ n2_; clear hb ho35; obtain ⟨Ao37, co37, eo37⟩ := Kd.R_slice HO_11.out; subst eo37) | ((with_reducible refine gate_builtin (b := .append) (xs := #[.tmp 44, .tmp 45]) rfl ?_); (try (refine gate_guard (by rfl) ?_; dsimp only)); at_builtin; refine Kd.R_append_rows (Kd.int .u8) (w0 := w) w.heap.size rfl (.tmp 44) (.tmp 45) 22 5 (.int .u8 0) 1 rfl Try.underlying22 info5 rfl (by decide) (by omega) v470 y469 t464 _ _ _ (fun k_ => some k_ ≠ (.slice Ao37 t464.length co37 : Value).ownBlock) (fun _ => False) rfl rfl ?aO ?aR (fun _ _ h => h) (fun _ h => h.elim) ?aF ?aB ?aS ?aL ?_; (case aR => repeat (first | exact (Kd.R_reads' HO_11.out).2.2 | (with_reducible refine Kd.C_alloc ?_ _) | (with_reducible refine Kd.C_drewN ?_ _) | (with_reducible refine Kd.C_drew ?_))); (case aB => exact (by repeat (first | (with_reducible first | exact HB.out | apply below_alloc | apply pw_below_drewN | apply below_drew1) | exact HB.out))); (case aF => exact (fun k_ hk => Kd.fresh' (Kd.R_lt (by (with_reducible repeat (first | apply Kd.R_alloc | apply Kd.R_drewN | apply Kd.R_drew)); exact HO_11.out)) k_ hk)); (case aO => exact (by (with_reducible repeat (first | apply Kd.R_alloc | apply Kd.R_drewN | apply Kd.R_drew)); exact Kd.R_mono HO471.out (fun _ hk => hk.2))); (case aS => exact (below_size (by repeat (first | (with_reducible first | exact HB.out | apply below_alloc | apply pw_below_drewN | apply below_drew1) | exact HB.out)))); (case aL => have := LMc21.out; omega); intro v473 w36 ho hb hg hat; rw [← Ny472.out] at ho; have n0_ := Aside0.mk (Kd.R_after (ok := (fun _ => True)) (by (with_reducible repeat (first | apply Kd.R_alloc | apply Kd.R_drewN | apply Kd.R_drew)); exact HO_11.out) hg hat); have n1_ := Aside0.mk (hb); have n2_ := Aside0.mk (ho); clear HO_11; clear HB; clear HO471; have HO_11 := n0_; have HB := n1_; have HO474 := n2_; clear n0_ n1_ n2_; clear ho hb hg hat) | ((with_reducible refine gate_builtin (b := .append) (xs := #[.tmp 46, .tmp 47]) rfl ?_); (try (refine gate_guard (by rfl) ?_; dsimp only)); at_builtin; refine Kd.R_append_rows (Kd.int .u8) (w0 := w) w.heap.size rfl (.tmp 46) (.tmp 47) 22 5 (.int .u8 0) 1 rfl Try.underlying22 info5 rfl (by decide) (by omega) v473 y472 l3 _ _ _ (fun k_ => some k_ ≠ (.slice Ao37 t464.length co37 : Value).ownBlock) (fun _ => False) rfl rfl ?aO ?aR (fun _ _ h => h) (fun _ h => h.elim) ?aF ?aB ?aS ?aL ?_; (case aR => repeat (first | exact (Kd.C_below HR3.out HB.out) | (with_reducible refine Kd.C_alloc ?_ _) | (with_reducible refine Kd.C_drewN ?_ _) | (with_reducible refine Kd.C_drew ?_))); (case aB => exact (by repeat (first | (with_reducible first | exact HB.out | apply below_alloc | apply pw_below_drewN | apply below_drew1) | exact HB.out))); (case aF => exact (fun k_ hk => Kd.fresh' (Kd.R_lt (by (with_reducible repeat (first | apply Kd.R_alloc | apply Kd.R_drewN | apply Kd.R_drew)); exact HO_11.out)) k_ hk)); (case aO => exact (by (with_reducible repeat (first | apply Kd.R_alloc | apply Kd.R_drewN | apply Kd.R_drew)); exact HO474.out)); (case aS => exact (below_size (by repeat (first | (with_reducible first | exact HB.out | apply below_alloc | apply pw_below_drewN | apply below_drew1) | exact HB.out)))); (case aL => have := LMc22.out; omega); intro v476 w38 ho hb hg hat; rw [← Ny475.out] at ho; have n0_ := Aside0.mk (Kd.R_after (ok := (fun _ => True)) (by (with_reducible repeat (first | apply Kd.R_alloc | apply Kd.R_drewN | apply Kd.R_drew)); exact HO_11.out) hg hat); have n1_ := Aside0.mk (hb); have n2_ := Aside0.mk (ho); clear HO_11; clear HB; clear HO474; have HO_11 := n0_; have HB := n1_; have HO477 := n2_; clear n0_ n1_ n2_; clear ho hb hg hat; obtain ⟨Ao39, co39, eo39⟩ := Kd.R_slice HO477.out; subst eo39) | ((with_reducible refine gate_callee (f := 27) rfl ?_); refine goesL_ (some 49) rfl rfl Try.func27 (by kernel_rfl) rfl #[.slice Ao39 y475.length co39] rfl (by (try simp only [List.map_toArray, List.map_cons, List.map_nil]); first | done | rfl | (simp only [List.length_drop, List.length_take]; rfl)) ?_; (with_reducible refine (head_Body.calls kj14 _ _ y475 t478 t479 t480 _ ?side1 ?side2 A23.out).mono ?_); (case side1 => repeat (first | exact (Kd.R_reads' HO477.out).2.2 | (with_reducible refine Kd.C_alloc ?_ _) | (with_reducible refine Kd.C_drewN ?_ _) | (with_reducible refine Kd.C_drew ?_))); (case side2 => exact (Kd.R_reads' HO477.out).2.1); rintro e w40 ⟨v481, rfl, ho0, hb⟩; refine ⟨_, rfl, ?_⟩; have n0_ := Aside0.mk (Kd.R_elder' (by (with_reducible repeat (first | apply Kd.R_alloc | apply Kd.R_drewN | apply Kd.R_drew)); exact HO_11.out) (Kd.R_base ho0) hb); have n1_ := Aside0.mk (Kd.R_elder' (by (with_reducible repeat (first | apply Kd.R_alloc | apply Kd.R_drewN | apply Kd.R_drew)); exact HO477.out) (Kd.R_base ho0) hb); have n2_ := Aside0.mk (Kd.R_lower (Kd.R_new' (Kd.R_new' ho0 (Kd.R_lt (by (with_reducible repeat (first | apply Kd.R_alloc | apply Kd.R_drewN | apply Kd.R_drew)); exact HO_11.out))) (Kd.R_lt (by (with_reducible repeat (first | apply Kd.R_alloc | apply Kd.R_drewN | apply Kd.R_drew)); exact HO477.out))) (below_size (by repeat (first | (with_reducible first | exact HB.out | apply below_alloc | apply pw_below_drewN | apply below_drew1) | exact HB.out)))); have n3_ := Aside0.mk (below_step (by repeat (first | (with_reducible first | exact HB.out | apply below_alloc | apply pw_below_drewN | apply below_drew1) | exact HB.out)) hb); clear HO_11; clear HO477; clear HB; have HO_11 := n0_; have HO477 := n1_; have HO482 := n2_; have HB := n3_; clear n0_ n1_ n2_ n3_; (try clear hb); (try clear hb2); (try clear hk); (try clear hi); (try clear ho0); have q41 : ((ji25) : Int) ≤ ((t464.length : Int) : Int) := of_decide_eq_true (by first | (with_reducible assumption) | assumption); obtain ⟨i041, hi041, _, hsz41, _⟩ := info_parts info5; have hroom41 : t464.length ≤ co37 := (Kd.R_reads' HO_11.out).2.1; have hC41 : Kd.C (Kd.int .u8) _ Ao37 t464.length t464 := (Kd.R_reads' HO_11.out).2.2; have hcut41 := cut_to (P := Try.prog) 22 5 .i64 Try.underlying22 hi041 Ao37 t464.length co37 (ji25) (of_decide_eq_true (by first | (with_reducible assumption) | assumption)) q41 hroom41; have hr41 := Kd.C_take (m := ((ji25) : Int).toNat) hC41 (by omega); have hy41 : y483.length = ((ji25) : Int).toNat := (by rw [Ny483.out, List.length_take]; omega); rw [← Ny483.out] at hr41; rw [← hy41] at hcut41; have HR486 := Aside0.mk hr41; have HC486 := Aside0.mk (show y483.length ≤ co37 from by omega); clear hr41 hC41 hroom41 hi041 hsz41; have KY41 := Aside0.mk hy41; clear hy41; have KL41 := Aside0.mk (show ((ji25) : Int).toNat ≤ t464.length from by omega); replace q41 := eq_true q41) | ((with_reducible refine gate_callee (f := 25) rfl ?_); refine goesL_ (some 61) rfl rfl Try.func25 (by kernel_rfl) rfl #[.slice Ao37 y483.length co37] rfl (by (try simp only [List.map_toArray, List.map_cons, List.map_nil]); first | done | rfl | (simp only [List.length_drop, List.length_take]; rfl)) ?_; (with_reducible refine (head_Read.calls kj14 _ _ y483 t487 t488 t489 _ ?side1 ?side2 A28.out).mono ?_); (case side1 => repeat (first | exact (by repeat (first | (with_reducible exact HR486.out) | (with_reducible refine Kd.C_alloc ?_ _) | (with_reducible refine Kd.C_drewN ?_ _) | (with_reducible refine Kd.C_drew ?_) | exact HR486.out)) | (with_reducible refine Kd.C_alloc ?_ _) | (with_reducible refine Kd.C_drewN ?_ _) | (with_reducible refine Kd.C_drew ?_))); (case side2 => exact HC486.out); rintro e w42 ⟨rfl, hb⟩; refine ⟨_, rfl, ?_⟩; have n0_ := Aside0.mk (Kd.R_below (by (with_reducible repeat (first | apply Kd.R_alloc | apply Kd.R_drewN | apply Kd.R_drew)); exact HO_11.out) hb); have n1_ := Aside0.mk (Kd.R_below (by (with_reducible repeat (first | apply Kd.R_alloc | apply Kd.R_drewN | apply Kd.R_drew)); exact HO477.out) hb); have n2_ := Aside0.mk (Kd.R_below (by (with_reducible repeat (first | apply Kd.R_alloc | apply Kd.R_drewN | apply Kd.R_drew)); exact HO482.out) hb); have n3_ := Aside0.mk (Kd.C_below (by repeat (first | (with_reducible exact HR486.out) | (with_reducible refine Kd.C_alloc ?_ _) | (with_reducible refine Kd.C_drewN ?_ _) | (with_reducible refine Kd.C_drew ?_) | exact HR486.out)) hb); have n4_ := Aside0.mk (below_step (by repeat (first | (with_reducible first | exact HB.out | apply below_alloc | apply pw_below_drewN | apply below_drew1) | exact HB.out)) hb); clear HO_11; clear HO477; clear HO482; clear HR486; clear HB; have HO_11 := n0_; have HO477 := n1_; have HO482 := n2_; have HR486 := n3_; have HB := n4_; clear n0_ n1_ n2_ n3_ n4_; (try clear hb); (try clear hb2); (try clear hk); (try clear hi)) | ((with_reducible refine gate_dst (N := 16) rfl ?_); (try (refine gate_guard (by rfl) ?_; dsimp only)); refine box_event ?hg (N := 16) ?hd (cs := #[.int .i64 0, .int .i64 0]) (t := 43) ?hr ?_; (case hd => rfl); (case hg => rfl); (case hr => first | (go_simp; done) | (go_simp; rfl)); intro gb490 hg w43 hbox hb; have n0_ := Aside0.mk (Kd.R_below (by (with_reducible repeat (first | apply Kd.R_alloc | apply Kd.R_drewN | apply Kd.R_drew)); exact HO_11.out) hb); have n1_ := Aside0.mk (Kd.R_below (by (with_reducible repeat (first | apply Kd.R_alloc | apply Kd.R_drewN | apply Kd.R_drew)); exact HO477.out) hb); have n2_ := Aside0.mk (Kd.R_below (by (with_reducible repeat (first | apply Kd.R_alloc | apply Kd.R_drewN | apply Kd.R_drew)); exact HO482.out) hb); have n3_ := Aside0.mk (Kd.C_below (by repeat (first | (with_reducible exact HR486.out) | (with_reducible refine Kd.C_alloc ?_ _) | (with_reducible refine Kd.C_drewN ?_ _) | (with_reducible refine Kd.C_drew ?_) | exact HR486.out)) hb); have n4_ := Aside0.mk (below_step (by repeat (first | (with_reducible first | exact HB.out | apply below_alloc | apply pw_below_drewN | apply below_drew1) | exact HB.out)) hb); have n5_ := Aside0.mk (hbox); have n6_ := Aside0.mk ((by rw [hg]; exact (below_size (by repeat (first | (with_reducible first | exact HB.out | apply below_alloc | apply pw_below_drewN | apply below_drew1) | exact HB.out))) : w.heap.size ≤ gb490)); have n7_ := Aside0.mk ((by rw [hg]; exact (below_size (by repeat (first | (with_reducible first | exact HB.out | apply below_alloc | apply pw_below_drewN | apply below_drew1) | exact HB.out))) : w.heap.size ≤ gb490)); clear HO_11; clear HO477; clear HO482; clear HR486; clear HB; have HO_11 := n0_; have HO477 := n1_; have HO482 := n2_; have HR486 := n3_; have HB := n4_; have BK490 := n5_; have GW490 := n6_; have GE490 := n7_; clear n0_ n1_ n2_ n3_ n4_ n5_ n6_ n7_; clear hb hbox hg; have hcz44_0 : w43.cell? ⟨gb490, 0, none⟩ = some (.int .i64 0) := (blk_cell BK490.out 0).trans rfl; have hcz44_1 : w43.cell? ⟨gb490, 1, none⟩ = some (.int .i64 0) := (blk_cell BK490.out 1).trans rfl; have hfz44_0 := blk_frozen BK490.out 0; have hfz44_1 := blk_frozen BK490.out 1) | ((with_reducible refine gate_callee (f := 23) rfl ?_); refine goesL_ (some 65) rfl rfl Try.func23 (by kernel_rfl) rfl #[.int .i64 a0] rfl (by (try simp only [List.map_toArray, List.map_cons, List.map_nil]); first | done | rfl | (simp only [List.length_drop, List.length_take]; rfl)) ?_; (with_reducible refine (head_May.calls a0 true _ A29.out).mono ?_); rintro e w' ⟨rfl, ⟨nd, rfl⟩⟩; refine ⟨_, rfl, ?_⟩; have hcv45 : ∀ m_ : Nat, (convert 22 9 v481).run Try.prog (World.drewN ((w43.setCell ⟨gb490, 0, none⟩ (.int .i64 t487)).setCell ⟨gb490, 1, none⟩ (.int .i64 t488)) m_) = .ok (.string (strOfNums t479)) (World.drewN ((w43.setCell ⟨gb490, 0, none⟩ (.int .i64 t487)).setCell ⟨gb490, 1, none⟩ (.int .i64 t488)) m_) := fun m_ => own_string (P := Try.prog) Try.underlying22 Try.underlying5 Try.underlying9 (Kd.own_of_R (Kd.R_drewN (by (with_reducible repeat (first | apply Kd.R_alloc | apply Kd.R_drewN | apply Kd.R_drew)); exact (Kd.R_mono (Kd.R_far (p := ⟨gb490, 1, none⟩) (Kd.R_far (p := ⟨gb490, 0, none⟩) (Kd.R_types HO482.out BK490.out (by decide)) (fun _ hk => hk.2) (.int .i64 t487)) (fun _ hk => hk.2) (.int .i64 t488)) (fun _ h_ => h_.1))) m_)); have hcv46p : ∀ m_ : Nat, (convert 22 9 (.slice A3 l3.length c3)).run Try.prog (World.drewN ((w43.setCell ⟨gb490, 0, none⟩ (.int .i64 t487)).setCell ⟨gb490, 1, none⟩ (.int .i64 t488)) m_) = .ok (.string (strOfNums l3)) (World.drewN ((w43.setCell ⟨gb490, 0, none⟩ (.int .i64 t487)).setCell ⟨gb490, 1, none⟩ (.int .i64 t488)) m_) := fun m_ => Kd.C_string (P := Try.prog) (A := A3) (c := c3) Try.underlying22 Try.underlying5 Try.underlying9 (Kd.C_drewN (Kd.C_below HR3.out (by repeat (first | (with_reducible first | exact HB.out | apply below_alloc | apply pw_below_drewN | apply below_drew1 | refine below_set ?_ GE490.out) | exact HB.out))) m_); (try simp only [List.length_drop, List.length_take] at hcv46p); have hcv46 := fun m_ : Nat => Kd.C_string (P := Try.prog) (A := A3) (c := c3) Try.underlying22 Try.underlying5 Try.underlying9 (Kd.C_drewN (Kd.C_below HR3.out HB.out) m_); have hcv48 := Kd.C_string (P := Try.prog) (A := A3) (c := c3) Try.underlying22 Try.underlying5 Try.underlying9 (Kd.C_below HR3.out HB.out)))
                                go_ret
                                exact ⟨by first | rfl | (simp [errW_none, errW_some] <;> rfl) | (simp only [← hji25]; first | rfl | (simp [errW_none, errW_some] <;> rfl)) | (simp [*, errW_none, errW_some] <;> rfl), by repeat (first | (with_reducible first | exact HB.out | apply below_alloc | apply pw_below_drewN | apply below_drew1 | refine below_set ?_ GE490.out) | exact HB.out)⟩
                              · rw [if_neg c33] at H
                                exact absurd H (by simp)
                            · rw [if_neg c32] at H
                              exact absurd H (by simp)
                          · rw [if_neg c31] at H
                            exact absurd H (by simp)
                        · replace c30 := Bool.eq_false_iff.mpr c30
                          subst c30
                          have H1 : (none) = some r := by rw [if_neg (show ¬ (false = true) by decide)] at H; exact H
                          clear H
                          have H := H1
                          clear H1
                          exact absurd H (by simp)
                      · rw [if_neg c27] at H
                        exact absurd H (by simp)
                    · rw [if_neg c26] at H
                      exact absurd H (by simp)
                · rw [if_neg c22] at H
                  exact absurd H (by simp)
              · rw [if_neg c21] at H
                exact absurd H (by simp)

/-- THE ONE PURE STATEMENT of umpirelaw08_HeadBack: yours. -/
def umpirelaw08_HeadBack.Pure : Prop := ∀ (a0 : Int) (a1 : Bool) (a2 : Bool) (l3 : List Int) (a4 : Int), (Lit.int .i64 a0).wf = true → l3.length ≤ maxLen → l3.length * 1 ≤ 140737488351232 → (∀ x ∈ l3, (Lit.int .u8 x).wf = true) → (Lit.int .u8 a4).wf = true → ∃ k, umpirelaw08_HeadBack.f k a0 a1 a2 l3 a4 = some true
theorem umpirelaw08_HeadBack.walk (P : umpirelaw08_HeadBack.Pure) (a0 : Int) (a1 : Bool) (a2 : Bool) (a3 : Option Addr) (len3 cap3 : Nat) (z3 : List Int) (a4 : Int) (w : World) (w0 : (Lit.int .i64 a0).wf = true) (w3 : (a3 = none ∧ len3 = 0 ∧ cap3 = 0 ∧ z3 = []) ∨ ∃ x, a3 = some x ∧ len3 ≤ cap3 ∧ cap3 ≤ maxLen ∧ z3.length = cap3 ∧ (∀ i, i < z3.length → w.cell? (x.add i) = some (.int .u8 (z3.getD i 0))) ∧ ∀ n ∈ z3, (Lit.int .u8 n).wf = true) (y3 : len3 * 1 ≤ 140737488351232) (w4 : (Lit.int .u8 a4).wf = true) :
    Calls Try.prog 9 #[.int .i64 a0, .bool a1, .bool a2, .slice a3 len3 cap3, .int .u8 a4] w fun e w' => e = .returned (.bool true) ∧ Below w.heap.size w w' := by
  obtain ⟨l3, rfl, hr3, hm3, hw3, hc3⟩ := ReadsInt.ofRowC w3
  obtain ⟨k, h⟩ := P a0 a1 a2 l3 a4 w0 hm3 y3 hw3 w4
  refine (umpirelaw08_HeadBack.calls k a0 a1 a2 _ _ l3 a4 true w (Kd.C_of_reads (d := (0 : Int)) (h1 := fun _ => rfl) hr3) hc3 h).mono ?_
  rintro e w' ⟨rfl, hd⟩
  exact ⟨rfl, hd⟩

end Go.Proofs.Ytjpfhipgffmgjaa.Print
