-- laid by this session's own program (wip/mkprint.sh) for this claim
import Derived.Test.YtnokndhppdkmdaaDoor0
import Derived.Test.YtnokndhppdkmdaaDoorE0
import Derived.Test.YtnokndhppdkmdaaDoorF10
import Derived.Test.YtnokndhppdkmdaaDoorF11
import Derived.Test.YtnokndhppdkmdaaDoorF13
import Derived.Test.YtnokndhppdkmdaaDoorF17
import Derived.Test.YtnokndhppdkmdaaDoorF9
namespace Go.Proofs.YtnokndhppdkmdaaDoor.Print
open Go.RowKit Go.Proofs.YtnokndhppdkmdaaDoorW.PrintWords Go.Proofs.YtnokndhppdkmdaaDoorW.PrintLast Go.Proofs.YtnokndhppdkmdaaDoorW.PrintMore
attribute [local go_sem] max2_int min2_int max_two min_two max_three min_three max_four min_four   -- for this text's walks alone
set_option linter.unusedVariables false
set_option linter.unusedSimpArgs false

attribute [local go_sem high] eqA32
/-! ### umpirelaw10_DumpCuts: function 6 -/
mutual
def umpirelaw10_DumpCuts.j0 : Nat → List (S37) → Int → Bool → Option (Bool)
  | 0, _, _, _ => none
  | k + 1, x0, x1, x20 => if x20 = true then ((umpirelaw10_awake.f k).bind fun t381 => (some t381)) else ((dump_Put.f k x0).bind fun bt382 => (if bt382.2 = 0 then (umpirelaw10_DumpCuts.j1 k x0 x1 bt382.1 bt382.2 ((bt382.1.length : Int) == 0)) else (umpirelaw10_DumpCuts.j1 k x0 x1 bt382.1 bt382.2 true)))
def umpirelaw10_DumpCuts.j1 : Nat → List (S37) → Int → List Int → Int → Bool → Option (Bool)
  | 0, _, _, _, _, _ => none
  | k + 1, x0, x1, x5, x6, x33 => if x33 = true then (if x6 = 0 then (some ((x0.length : Int) == 0)) else (some true)) else (if (x5.length : Int) = 0 then (none) else (if 0 ≤ (Int.tmod (wrap64 (x1)) (x5.length : Int)) then (if (Int.tmod (wrap64 (x1)) (x5.length : Int)) ≤ (x5.length : Int) then ((dump_Read.f k (x5.take ((Int.tmod (wrap64 (x1)) (x5.length : Int)) : Int).toNat)).bind fun bt390 => (umpirelaw10_DumpCuts.l0 k x0 (Int.tmod (wrap64 (x1)) (x5.length : Int)) bt390.1 0 0 bt390.2.1 bt390.2.2)) else (none)) else (none)))
def umpirelaw10_DumpCuts.l0 : Nat → List (S37) → Int → List (S37) → Int → Int → Int → Int → Option (Bool)
  | 0, _, _, _, _, _, _, _ => none
  | k + 1, x0, x7, x8, x10, x11, x396000, x396001 => if x11 < (x0.length : Int) then (if 0 ≤ x11 then (if x11 ≤ (wrap64 (x11 + 1)) then (if (wrap64 (x11 + 1)) ≤ (x0.length : Int) then ((dump_Put.f k ((x0.take ((wrap64 (x11 + 1)) : Int).toNat).drop (x11 : Int).toNat)).bind fun bt400 => (if x10 = x7 then (if (x396000 == 0 && (x396001 == 0)) = true then (if x11 ≤ (x0.length : Int) then ((umpireref10_Same.f k x8 (x0.take (x11 : Int).toNat)).bind fun t408 => (some t408)) else (none)) else (none)) else (if (wrap64 (x10 + (bt400.1.length : Int))) > x7 then (if (x396000 == x10 && (x396001 == 2)) = true then (if x11 ≤ (x0.length : Int) then ((umpireref10_Same.f k x8 (x0.take (x11 : Int).toNat)).bind fun t413 => (some t413)) else (none)) else (none)) else (umpirelaw10_DumpCuts.l0 k x0 x7 x8 (wrap64 (x10 + (bt400.1.length : Int))) (wrap64 (x11 + 1)) x396000 x396001)))) else (none)) else (none)) else (none)) else (none)
end
def umpirelaw10_DumpCuts.f (k : Nat) (l0 : List (S37)) (a1 : Int) : Option (Bool) := (umpirelaw10_awake.f k).bind fun t379 => (if t379 = true then ((umpireref10_Few.f k l0).bind fun t380 => (umpirelaw10_DumpCuts.j0 k l0 a1 (!t380))) else (umpirelaw10_DumpCuts.j0 k l0 a1 true))
theorem umpirelaw10_DumpCuts.mono_l : ∀ k, (∀ y0 y1 y2, LeO (umpirelaw10_DumpCuts.j0 k y0 y1 y2) (umpirelaw10_DumpCuts.j0 (k + 1) y0 y1 y2)) ∧ (∀ y0 y1 y2 y3 y4, LeO (umpirelaw10_DumpCuts.j1 k y0 y1 y2 y3 y4) (umpirelaw10_DumpCuts.j1 (k + 1) y0 y1 y2 y3 y4)) ∧ (∀ y0 y1 y2 y3 y4 y5 y6, LeO (umpirelaw10_DumpCuts.l0 k y0 y1 y2 y3 y4 y5 y6) (umpirelaw10_DumpCuts.l0 (k + 1) y0 y1 y2 y3 y4 y5 y6))
  | 0 => ⟨fun _ _ _ r h => by simp [umpirelaw10_DumpCuts.j0] at h, fun _ _ _ _ _ r h => by simp [umpirelaw10_DumpCuts.j1] at h, fun _ _ _ _ _ _ _ r h => by simp [umpirelaw10_DumpCuts.l0] at h⟩
  | k + 1 => by
    obtain ⟨ih0, ih1, ih2⟩ := umpirelaw10_DumpCuts.mono_l k
    refine ⟨?_, ?_, ?_⟩
    · intro y0 y1 y2
      unfold umpirelaw10_DumpCuts.j0
      repeat' first
      | (with_reducible exact ih0 _ _ _)
      | (with_reducible exact ih1 _ _ _ _ _)
      | (with_reducible exact ih2 _ _ _ _ _ _ _)
      | (with_reducible exact dump_Put.mono _ _)
      | (with_reducible exact dump_Read.mono _ _)
      | (with_reducible exact umpirelaw10_awake.mono _)
      | (with_reducible exact umpireref10_Few.mono _ _)
      | (with_reducible exact umpireref10_Same.mono _ _ _)
      | (with_reducible exact LeO.refl _)
      | (with_reducible exact LeO.none _)
      | (with_reducible refine LeO.ite ?_ ?_)
      | (with_reducible refine LeO.bind ?_ (fun _ => ?_))
      | exact ih0 _ _ _
      | exact ih1 _ _ _ _ _
      | exact ih2 _ _ _ _ _ _ _
      | exact dump_Put.mono _ _
      | exact dump_Read.mono _ _
      | exact umpirelaw10_awake.mono _
      | exact umpireref10_Few.mono _ _
      | exact umpireref10_Same.mono _ _ _
      | exact LeO.none _
      | refine LeO.ite ?_ ?_
      | refine LeO.bind ?_ (fun _ => ?_)
    · intro y0 y1 y2 y3 y4
      unfold umpirelaw10_DumpCuts.j1
      repeat' first
      | (with_reducible exact ih0 _ _ _)
      | (with_reducible exact ih1 _ _ _ _ _)
      | (with_reducible exact ih2 _ _ _ _ _ _ _)
      | (with_reducible exact dump_Put.mono _ _)
      | (with_reducible exact dump_Read.mono _ _)
      | (with_reducible exact umpirelaw10_awake.mono _)
      | (with_reducible exact umpireref10_Few.mono _ _)
      | (with_reducible exact umpireref10_Same.mono _ _ _)
      | (with_reducible exact LeO.refl _)
      | (with_reducible exact LeO.none _)
      | (with_reducible refine LeO.ite ?_ ?_)
      | (with_reducible refine LeO.bind ?_ (fun _ => ?_))
      | exact ih0 _ _ _
      | exact ih1 _ _ _ _ _
      | exact ih2 _ _ _ _ _ _ _
      | exact dump_Put.mono _ _
      | exact dump_Read.mono _ _
      | exact umpirelaw10_awake.mono _
      | exact umpireref10_Few.mono _ _
      | exact umpireref10_Same.mono _ _ _
      | exact LeO.none _
      | refine LeO.ite ?_ ?_
      | refine LeO.bind ?_ (fun _ => ?_)
    · intro y0 y1 y2 y3 y4 y5 y6
      unfold umpirelaw10_DumpCuts.l0
      repeat' first
      | (with_reducible exact ih0 _ _ _)
      | (with_reducible exact ih1 _ _ _ _ _)
      | (with_reducible exact ih2 _ _ _ _ _ _ _)
      | (with_reducible exact dump_Put.mono _ _)
      | (with_reducible exact dump_Read.mono _ _)
      | (with_reducible exact umpirelaw10_awake.mono _)
      | (with_reducible exact umpireref10_Few.mono _ _)
      | (with_reducible exact umpireref10_Same.mono _ _ _)
      | (with_reducible exact LeO.refl _)
      | (with_reducible exact LeO.none _)
      | (with_reducible refine LeO.ite ?_ ?_)
      | (with_reducible refine LeO.bind ?_ (fun _ => ?_))
      | exact ih0 _ _ _
      | exact ih1 _ _ _ _ _
      | exact ih2 _ _ _ _ _ _ _
      | exact dump_Put.mono _ _
      | exact dump_Read.mono _ _
      | exact umpirelaw10_awake.mono _
      | exact umpireref10_Few.mono _ _
      | exact umpireref10_Same.mono _ _ _
      | exact LeO.none _
      | refine LeO.ite ?_ ?_
      | refine LeO.bind ?_ (fun _ => ?_)
theorem umpirelaw10_DumpCuts.mono : ∀ a0 a1 k, LeO (umpirelaw10_DumpCuts.f k a0 a1) (umpirelaw10_DumpCuts.f (k + 1) a0 a1) := by
  intro a0 a1 k
  obtain ⟨ih0, ih1, ih2⟩ := umpirelaw10_DumpCuts.mono_l k
  unfold umpirelaw10_DumpCuts.f
  repeat' first
      | (with_reducible exact ih0 _ _ _)
      | (with_reducible exact ih1 _ _ _ _ _)
      | (with_reducible exact ih2 _ _ _ _ _ _ _)
      | (with_reducible exact dump_Put.mono _ _)
      | (with_reducible exact dump_Read.mono _ _)
      | (with_reducible exact umpirelaw10_awake.mono _)
      | (with_reducible exact umpireref10_Few.mono _ _)
      | (with_reducible exact umpireref10_Same.mono _ _ _)
      | (with_reducible exact LeO.refl _)
      | (with_reducible exact LeO.none _)
      | (with_reducible refine LeO.ite ?_ ?_)
      | (with_reducible refine LeO.bind ?_ (fun _ => ?_))
      | exact ih0 _ _ _
      | exact ih1 _ _ _ _ _
      | exact ih2 _ _ _ _ _ _ _
      | exact dump_Put.mono _ _
      | exact dump_Read.mono _ _
      | exact umpirelaw10_awake.mono _
      | exact umpireref10_Few.mono _ _
      | exact umpireref10_Same.mono _ _ _
      | exact LeO.none _
      | refine LeO.ite ?_ ?_
      | refine LeO.bind ?_ (fun _ => ?_)
set_option maxHeartbeats 8000000 in
set_option maxRecDepth 100000 in
theorem umpirelaw10_DumpCuts.calls (k : Nat) (A0 : Option Addr) (c0 : Nat) (l0 : List (S37)) (a1 : Int) (r : Bool) (w : World) (hG0 : Kd.C k49 w (some ⟨0, 0, none⟩) 8 formsG0) (hr0 : Kd.C k37 w A0 l0.length l0) (hc0 : l0.length ≤ c0) (h : umpirelaw10_DumpCuts.f k l0 a1 = some r) :
    Calls Tryd.prog 6 #[.slice A0 l0.length c0, .int .u16 a1] w fun e w' => e = .returned (.bool r) ∧ Below w.heap.size w w' := by
  have hu32 := Tryd.underlying32
  have HR0 := Aside0.mk hr0
  have HC0 := Aside0.mk hc0
  clear hr0 hc0
  have HRG0 := Aside0.mk hG0
  clear hG0
  have HB := Aside0.mk (Below.refl w.heap.size w)
  have H : ((umpirelaw10_awake.f k).bind fun t379 => (if t379 = true then ((umpireref10_Few.f k l0).bind fun t380 => (umpirelaw10_DumpCuts.j0 k l0 a1 (!t380))) else (umpirelaw10_DumpCuts.j0 k l0 a1 true))) = some r := h
  clear h
  have HC3 := Aside0.mk H
  clear H
  go_enter Tryd.func6, Tryd.ntmps6
  go_upto_region 1 with (fail)
  go_cut [20] (fun v20 wc => ∃ (kq : Nat) (x20_2 : Bool), v20 = .bool x20_2 ∧ Aside0 (umpirelaw10_DumpCuts.j0 kq l0 a1 x20_2 = some r) ∧ Aside0 (kq ≤ k) ∧ Aside0 (Below w.heap.size w wc))
  case first =>
    have H := HC3.out
    clear HC3
    replace H := Option.bind_eq_some_iff.mp H
    obtain ⟨t379, A40, H⟩ := H
    replace H : (if t379 = true then ((umpireref10_Few.f k l0).bind fun t380 => (umpirelaw10_DumpCuts.j0 k l0 a1 (!t380))) else (umpirelaw10_DumpCuts.j0 k l0 a1 true)) = some r := H
    have A4 := Aside0.mk A40
    clear A40
    by_cases c5 : t379 = true
    · subst c5
      have H1 : ((umpireref10_Few.f k l0).bind fun t380 => (umpirelaw10_DumpCuts.j0 k l0 a1 (!t380))) = some r := by rw [if_pos rfl] at H; exact H
      clear H
      have H := H1
      clear H1
      replace H := Option.bind_eq_some_iff.mp H
      obtain ⟨t380, A60, H⟩ := H
      replace H : (umpirelaw10_DumpCuts.j0 k l0 a1 (!t380)) = some r := H
      have A6 := Aside0.mk A60
      clear A60
      have H' := Aside0.mk H
      clear H
      go_wp2_with (first | ((with_reducible refine gate_callee (f := 9) rfl ?_); refine goesL_ (some 14) rfl rfl Tryd.func9 (by kernel_rfl) rfl #[] rfl (by (try simp only [List.map_toArray, List.map_cons, List.map_nil]); first | done | rfl | (simp only [List.length_drop, List.length_take]; rfl)) ?_; (with_reducible refine (umpirelaw10_awake.calls k  true _ ?side1 A4.out).mono ?_); (case side1 => repeat (first | exact (Kd.C_below HRG0.out HB.out) | (with_reducible refine Kd.C_alloc ?_ _) | (with_reducible refine Kd.C_drewN ?_ _) | (with_reducible refine Kd.C_drew ?_))); rintro e w7 ⟨rfl, hb⟩; refine ⟨_, rfl, ?_⟩; have n0_ := Aside0.mk (below_step (by repeat (first | (with_reducible first | exact HB.out | apply below_alloc | apply pw_below_drewN | apply below_drew1) | exact HB.out)) hb); clear HB; have HB := n0_; clear n0_; (try clear hb); (try clear hb2); (try clear hk); (try clear hi)) | (go_at_call 10; (with_reducible refine (umpireref10_Few.calls k _ _ l0 t380 _ ?side1 ?side2 A6.out).mono ?_); (case side1 => repeat (first | exact (Kd.C_below HR0.out HB.out) | (with_reducible refine Kd.C_alloc ?_ _) | (with_reducible refine Kd.C_drewN ?_ _) | (with_reducible refine Kd.C_drew ?_))); (case side2 => exact HC0.out); rintro e w8 ⟨rfl, hb⟩; have n0_ := Aside0.mk (below_step (by repeat (first | (with_reducible first | exact HB.out | apply below_alloc | apply pw_below_drewN | apply below_drew1) | exact HB.out)) hb); clear HB; have HB := n0_; clear n0_; (try clear hb); (try clear hb2); (try clear hk); (try clear hi)))
      go_meet
      case rel => exact ⟨_, (!t380), (by first | rfl | (simp; done) | (simp [*]; done)), H', ⟨by first | omega | exact Nat.le_refl _⟩, ⟨by repeat (first | (with_reducible first | exact HB.out | apply below_alloc | apply pw_below_drewN | apply below_drew1) | exact HB.out)⟩⟩
    · replace c5 := Bool.eq_false_iff.mpr c5
      subst c5
      have H1 : (umpirelaw10_DumpCuts.j0 k l0 a1 true) = some r := by rw [if_neg (show ¬ (false = true) by decide)] at H; exact H
      clear H
      have H := H1
      clear H1
      have H' := Aside0.mk H
      clear H
      go_wp2_with (first | ((with_reducible refine gate_callee (f := 9) rfl ?_); refine goesL_ (some 14) rfl rfl Tryd.func9 (by kernel_rfl) rfl #[] rfl (by (try simp only [List.map_toArray, List.map_cons, List.map_nil]); first | done | rfl | (simp only [List.length_drop, List.length_take]; rfl)) ?_; (with_reducible refine (umpirelaw10_awake.calls k  false _ ?side1 A4.out).mono ?_); (case side1 => repeat (first | exact (Kd.C_below HRG0.out HB.out) | (with_reducible refine Kd.C_alloc ?_ _) | (with_reducible refine Kd.C_drewN ?_ _) | (with_reducible refine Kd.C_drew ?_))); rintro e w9 ⟨rfl, hb⟩; refine ⟨_, rfl, ?_⟩; have n0_ := Aside0.mk (below_step (by repeat (first | (with_reducible first | exact HB.out | apply below_alloc | apply pw_below_drewN | apply below_drew1) | exact HB.out)) hb); clear HB; have HB := n0_; clear n0_; (try clear hb); (try clear hb2); (try clear hk); (try clear hi)))
      go_meet
      case rel => exact ⟨_, (true), (by first | rfl | (simp; done) | (simp [*]; done)), H', ⟨by first | omega | exact Nat.le_refl _⟩, ⟨by repeat (first | (with_reducible first | exact HB.out | apply below_alloc | apply pw_below_drewN | apply below_drew1) | exact HB.out)⟩⟩
  case rest =>
    clear HC3
    try clear p2
    try clear c5
    try clear c6
    try clear c9
    obtain ⟨kq, x20_2, rfl, HA, HJ2, HB⟩ := hcut
    cases kq with
    | zero => exact absurd HA.out (by simp [umpirelaw10_DumpCuts.j0])
    | succ kj2 =>
      have H := HA.out
      clear HA
      simp only [umpirelaw10_DumpCuts.j0] at H
      by_cases c10 : x20_2 = true
      · subst c10
        have H1 : ((umpirelaw10_awake.f kj2).bind fun t381 => (some t381)) = some r := by rw [if_pos rfl] at H; exact H
        clear H
        have H := H1
        clear H1
        replace H := Option.bind_eq_some_iff.mp H
        obtain ⟨t381, A110, H⟩ := H
        replace H : (some t381) = some r := H
        have A11 := Aside0.mk A110
        clear A110
        obtain rfl := Option.some.inj H
        go_wp2_with (first | ((with_reducible refine gate_callee (f := 9) rfl ?_); refine goesL_ (some 21) rfl rfl Tryd.func9 (by kernel_rfl) rfl #[] rfl (by (try simp only [List.map_toArray, List.map_cons, List.map_nil]); first | done | rfl | (simp only [List.length_drop, List.length_take]; rfl)) ?_; (with_reducible refine (umpirelaw10_awake.calls kj2  t381 _ ?side1 A11.out).mono ?_); (case side1 => repeat (first | exact (Kd.C_below HRG0.out HB.out) | (with_reducible refine Kd.C_alloc ?_ _) | (with_reducible refine Kd.C_drewN ?_ _) | (with_reducible refine Kd.C_drew ?_))); rintro e w12 ⟨rfl, hb⟩; refine ⟨_, rfl, ?_⟩; have n0_ := Aside0.mk (below_step (by repeat (first | (with_reducible first | exact HB.out | apply below_alloc | apply pw_below_drewN | apply below_drew1) | exact HB.out)) hb); clear HB; have HB := n0_; clear n0_; (try clear hb); (try clear hb2); (try clear hk); (try clear hi)))
        go_ret
        exact ⟨by first | rfl | (simp [errW_none, errW_some] <;> rfl) | (simp [*, errW_none, errW_some] <;> rfl), by repeat (first | (with_reducible first | exact HB.out | apply below_alloc | apply pw_below_drewN | apply below_drew1) | exact HB.out)⟩
      · replace c10 := Bool.eq_false_iff.mpr c10
        subst c10
        have H1 : ((dump_Put.f kj2 l0).bind fun bt382 => (if bt382.2 = 0 then (umpirelaw10_DumpCuts.j1 kj2 l0 a1 bt382.1 bt382.2 ((bt382.1.length : Int) == 0)) else (umpirelaw10_DumpCuts.j1 kj2 l0 a1 bt382.1 bt382.2 true))) = some r := by rw [if_neg (show ¬ (false = true) by decide)] at H; exact H
        clear H
        have H := H1
        clear H1
        replace H := Option.bind_eq_some_iff.mp H
        obtain ⟨⟨t382, t383⟩, A130, H⟩ := H
        replace H : (if t383 = 0 then (umpirelaw10_DumpCuts.j1 kj2 l0 a1 t382 t383 ((t382.length : Int) == 0)) else (umpirelaw10_DumpCuts.j1 kj2 l0 a1 t382 t383 true)) = some r := H
        have A13 := Aside0.mk A130
        clear A130
        have HC14 := Aside0.mk H
        clear H
        go_upto_region 4 with (first | ((with_reducible refine gate_callee (f := 11) rfl ?_); refine goesL_ (some 24) rfl rfl Tryd.func11 (by kernel_rfl) rfl #[.slice A0 l0.length c0] rfl (by (try simp only [List.map_toArray, List.map_cons, List.map_nil]); first | done | rfl | (simp only [List.length_drop, List.length_take]; rfl)) ?_; (with_reducible refine (dump_Put.calls kj2 _ _ l0 t382 t383 _ ?side1 ?side2 ?side3 A13.out).mono ?_); (case side1 => repeat (first | exact (Kd.C_below HRG0.out HB.out) | (with_reducible refine Kd.C_alloc ?_ _) | (with_reducible refine Kd.C_drewN ?_ _) | (with_reducible refine Kd.C_drew ?_))); (case side2 => repeat (first | exact (Kd.C_below HR0.out HB.out) | (with_reducible refine Kd.C_alloc ?_ _) | (with_reducible refine Kd.C_drewN ?_ _) | (with_reducible refine Kd.C_drew ?_))); (case side3 => exact HC0.out); rintro e w15 ⟨v384, rfl, ho0, hb⟩; refine ⟨_, rfl, ?_⟩; have n0_ := Aside0.mk (Kd.R_lower ho0 (below_size (by repeat (first | (with_reducible first | exact HB.out | apply below_alloc | apply pw_below_drewN | apply below_drew1) | exact HB.out)))); have n1_ := Aside0.mk (below_step (by repeat (first | (with_reducible first | exact HB.out | apply below_alloc | apply pw_below_drewN | apply below_drew1) | exact HB.out)) hb); clear HB; have HO385 := n0_; have HB := n1_; clear n0_ n1_; (try clear hb); (try clear hb2); (try clear hk); (try clear hi); (try clear ho0)))
        (try simp only [Act.put, List.setIfInBounds_toArray, List.set_cons_zero, List.set_cons_succ])
        go_cut [33] (fun v33 wc => ∃ (kq : Nat) (x33_13 : Bool), v33 = .bool x33_13 ∧ Aside0 (umpirelaw10_DumpCuts.j1 kq l0 a1 t382 t383 x33_13 = some r) ∧ Aside0 (kq ≤ kj2) ∧ Aside0 (Kd.R (Kd.int .u8) 5 wc w.heap.size (fun _ => True) v384 t382) ∧ Aside0 (Below w.heap.size w wc))
        case first =>
          have H := HC14.out
          clear HC14
          by_cases c16 : t383 = 0
          · rw [if_pos c16] at H
            have c16b0 : (t383 == 0) = true := beq_iff_eq.mpr c16
            have c16b1 : (t383 != 0) = false := bne_eq_false_iff_eq.mpr c16
            clear c16
            (first | rw [c16b0] | (simp only [i64_w, i32_w]; rw [c16b0]) | skip)
            have H' := Aside0.mk H
            clear H
            obtain ⟨Ao17, co17, eo17⟩ := Kd.R_slice HO385.out
            subst eo17
            go_wp2
            go_meet
            case rel => exact ⟨_, (((t382.length : Int) == 0)), (by first | rfl | (simp; done) | (simp [*]; done)), H', ⟨by have := HJ2.out; first | omega | exact Nat.le_refl _⟩, ⟨by (with_reducible repeat (first | apply Kd.R_alloc | apply Kd.R_drewN | apply Kd.R_drew)); exact HO385.out⟩, ⟨by repeat (first | (with_reducible first | exact HB.out | apply below_alloc | apply pw_below_drewN | apply below_drew1) | exact HB.out)⟩⟩
          · rw [if_neg c16] at H
            have c16b0 : (t383 == 0) = false := beq_eq_false_iff_ne.mpr c16
            have c16b1 : (t383 != 0) = true := bne_iff_ne.mpr c16
            (first | rw [c16b0] | (simp only [i64_w, i32_w]; rw [c16b0]) | skip)
            have H' := Aside0.mk H
            clear H
            go_wp2
            go_meet
            case rel => exact ⟨_, (true), (by first | rfl | (simp; done) | (simp [*]; done)), H', ⟨by have := HJ2.out; first | omega | exact Nat.le_refl _⟩, ⟨by (with_reducible repeat (first | apply Kd.R_alloc | apply Kd.R_drewN | apply Kd.R_drew)); exact HO385.out⟩, ⟨by repeat (first | (with_reducible first | exact HB.out | apply below_alloc | apply pw_below_drewN | apply below_drew1) | exact HB.out)⟩⟩
        case rest =>
          clear HC14
          try clear c1
          try clear p2
          try clear c5
          try clear c6
          try clear c9
          try clear c10
          try clear c11
          try clear c16
          try clear c16b0
          try clear c16b1
          try clear p2
          obtain ⟨kq, x33_13, rfl, HA, HJ13, HO_5, HB⟩ := hcut
          cases kq with
          | zero => exact absurd HA.out (by simp [umpirelaw10_DumpCuts.j1])
          | succ kj13 =>
            have H := HA.out
            clear HA
            simp only [umpirelaw10_DumpCuts.j1] at H
            by_cases c18 : x33_13 = true
            · subst c18
              have H1 : (if t383 = 0 then (some ((l0.length : Int) == 0)) else (some true)) = some r := by rw [if_pos rfl] at H; exact H
              clear H
              have H := H1
              clear H1
              by_cases c19 : t383 = 0
              · rw [if_pos c19] at H
                have c19b0 : (t383 == 0) = true := beq_iff_eq.mpr c19
                have c19b1 : (t383 != 0) = false := bne_eq_false_iff_eq.mpr c19
                clear c19
                obtain rfl := Option.some.inj H
                go_wp2
                go_ret
                exact ⟨by first | rfl | (simp [errW_none, errW_some] <;> rfl) | (simp [*, errW_none, errW_some] <;> rfl), by repeat (first | (with_reducible first | exact HB.out | apply below_alloc | apply pw_below_drewN | apply below_drew1) | exact HB.out)⟩
              · rw [if_neg c19] at H
                have c19b0 : (t383 == 0) = false := beq_eq_false_iff_ne.mpr c19
                have c19b1 : (t383 != 0) = true := bne_iff_ne.mpr c19
                obtain rfl := Option.some.inj H
                go_wp2
                go_ret
                exact ⟨by first | rfl | (simp [errW_none, errW_some] <;> rfl) | (simp [*, errW_none, errW_some] <;> rfl), by repeat (first | (with_reducible first | exact HB.out | apply below_alloc | apply pw_below_drewN | apply below_drew1) | exact HB.out)⟩
            · replace c18 := Bool.eq_false_iff.mpr c18
              subst c18
              have H1 : (if (t382.length : Int) = 0 then (none) else (if 0 ≤ (Int.tmod (wrap64 (a1)) (t382.length : Int)) then (if (Int.tmod (wrap64 (a1)) (t382.length : Int)) ≤ (t382.length : Int) then ((dump_Read.f kj13 (t382.take ((Int.tmod (wrap64 (a1)) (t382.length : Int)) : Int).toNat)).bind fun bt390 => (umpirelaw10_DumpCuts.l0 kj13 l0 (Int.tmod (wrap64 (a1)) (t382.length : Int)) bt390.1 0 0 bt390.2.1 bt390.2.2)) else (none)) else (none))) = some r := by rw [if_neg (show ¬ (false = true) by decide)] at H; exact H
              clear H
              have H := H1
              clear H1
              by_cases c20 : (t382.length : Int) = 0
              · rw [if_pos c20] at H
                exact absurd H (by simp)
              · rw [if_neg c20] at H
                have c20b0 : ((t382.length : Int) == 0) = false := beq_eq_false_iff_ne.mpr c20
                have c20b1 : ((t382.length : Int) != 0) = true := bne_iff_ne.mpr c20
                have c20b2 : ¬ (t382 = []) := fun h_ => c20 (by rw [h_]; rfl)
                obtain ⟨ji21, hji21⟩ : ∃ j_ : Int, (Int.tmod (wrap64 (a1)) (t382.length : Int)) = j_ := ⟨_, rfl⟩
                replace H : (if 0 ≤ (ji21) then (if (ji21) ≤ (t382.length : Int) then ((dump_Read.f kj13 (t382.take ((ji21) : Int).toNat)).bind fun bt390 => (umpirelaw10_DumpCuts.l0 kj13 l0 ji21 bt390.1 0 0 bt390.2.1 bt390.2.2)) else (none)) else (none)) = some r := by first | (rw [hji21] at H; exact H) | (simp only [hji21] at H ⊢; exact H)
                by_cases c22 : 0 ≤ (ji21)
                · rw [if_pos c22] at H
                  have c22b0 := eq_true c22
                  have c22b1 : decide (0 ≤ (ji21)) = true := decide_eq_true c22
                  clear c22
                  by_cases c23 : (ji21) ≤ (t382.length : Int)
                  · rw [if_pos c23] at H
                    have c23b0 := eq_true c23
                    have c23b1 : decide ((ji21) ≤ (t382.length : Int)) = true := decide_eq_true c23
                    clear c23
                    obtain ⟨y386, hy386⟩ : ∃ y_ : List Int, y_ = (t382.take ((ji21) : Int).toNat) := ⟨_, rfl⟩
                    replace H : ((dump_Read.f kj13 y386).bind fun bt390 => (umpirelaw10_DumpCuts.l0 kj13 l0 ji21 bt390.1 0 0 bt390.2.1 bt390.2.2)) = some r := by first | (rw [hy386]; with_reducible exact H) | (have H2_ := (Option.bind_some _ _).symm.trans H; rw [hy386]; with_reducible exact H2_) | (have H2_ := (Option.bind_some _ _).symm.trans H; with_reducible exact H2_) | with_reducible exact H | (rw [hy386]; exact H) | exact H
                    have Ny386 := Aside0.mk hy386
                    clear hy386
                    replace H := Option.bind_eq_some_iff.mp H
                    obtain ⟨⟨t390, t393, t394⟩, A240, H⟩ := H
                    replace H : (umpirelaw10_DumpCuts.l0 kj13 l0 ji21 t390 0 0 t393 t394) = some r := H
                    have A24 := Aside0.mk A240
                    clear A240
                    have H' := Aside0.mk H
                    clear H
                    obtain ⟨Ao25, co25, eo25⟩ := Kd.R_slice HO_5.out
                    subst eo25
                    have q26 : ((ji21) : Int) ≤ ((t382.length : Int) : Int) := of_decide_eq_true (by first | (with_reducible assumption) | assumption)
                    obtain ⟨i026, hi026, _, hsz26, _⟩ := info_parts info5
                    have hroom26 : t382.length ≤ co25 := (Kd.R_reads' HO_5.out).2.1
                    have hC26 : Kd.C (Kd.int .u8) _ Ao25 t382.length t382 := (Kd.R_reads' HO_5.out).2.2
                    have hcut26 := cut_to (P := Tryd.prog) 25 5 .i64 Tryd.underlying25 hi026 Ao25 t382.length co25 (ji21) (of_decide_eq_true (by first | (with_reducible assumption) | assumption)) q26 hroom26
                    have hr26 := Kd.C_take (m := ((ji21) : Int).toNat) hC26 (by omega)
                    have hy26 : y386.length = ((ji21) : Int).toNat := (by rw [Ny386.out, List.length_take]; omega)
                    rw [← Ny386.out] at hr26
                    rw [← hy26] at hcut26
                    have HR389 := Aside0.mk hr26
                    have HC389 := Aside0.mk (show y386.length ≤ co25 from by omega)
                    clear hr26 hC26 hroom26 hi026 hsz26
                    have KY26 := Aside0.mk hy26
                    clear hy26
                    have KL26 := Aside0.mk (show ((ji21) : Int).toNat ≤ t382.length from by omega)
                    replace q26 := eq_true q26
                    go_wp2_with (first | ((with_reducible refine gate_callee (f := 13) rfl ?_); refine goesL_ (some 50) rfl rfl Tryd.func13 (by kernel_rfl) rfl #[.slice Ao25 y386.length co25] rfl (by (try simp only [List.map_toArray, List.map_cons, List.map_nil]); first | done | rfl | (simp only [List.length_drop, List.length_take]; rfl)) ?_; (with_reducible refine (dump_Read.calls kj13 _ _ y386 t390 t393 t394 _ ?side1 ?side2 ?side3 A24.out).mono ?_); (case side1 => repeat (first | exact (Kd.C_below HRG0.out HB.out) | (with_reducible refine Kd.C_alloc ?_ _) | (with_reducible refine Kd.C_drewN ?_ _) | (with_reducible refine Kd.C_drew ?_))); (case side2 => repeat (first | exact (by repeat (first | (with_reducible exact HR389.out) | (with_reducible refine Kd.C_alloc ?_ _) | (with_reducible refine Kd.C_drewN ?_ _) | (with_reducible refine Kd.C_drew ?_) | exact HR389.out)) | (with_reducible refine Kd.C_alloc ?_ _) | (with_reducible refine Kd.C_drewN ?_ _) | (with_reducible refine Kd.C_drew ?_))); (case side3 => exact HC389.out); rintro e w27 ⟨v391, rfl, ho0, hb⟩; refine ⟨_, rfl, ?_⟩; have n0_ := Aside0.mk (Kd.R_below (by (with_reducible repeat (first | apply Kd.R_alloc | apply Kd.R_drewN | apply Kd.R_drew)); exact HO_5.out) hb); have n1_ := Aside0.mk (Kd.S_lower (Kd.S_new' ho0 (Kd.R_lt (by (with_reducible repeat (first | apply Kd.R_alloc | apply Kd.R_drewN | apply Kd.R_drew)); exact HO_5.out))) (below_size (by repeat (first | (with_reducible first | exact HB.out | apply below_alloc | apply pw_below_drewN | apply below_drew1) | exact HB.out)))); have n2_ := Aside0.mk (Kd.C_below (by repeat (first | (with_reducible exact HR389.out) | (with_reducible refine Kd.C_alloc ?_ _) | (with_reducible refine Kd.C_drewN ?_ _) | (with_reducible refine Kd.C_drew ?_) | exact HR389.out)) hb); have n3_ := Aside0.mk (below_step (by repeat (first | (with_reducible first | exact HB.out | apply below_alloc | apply pw_below_drewN | apply below_drew1) | exact HB.out)) hb); clear HO_5; clear HR389; clear HB; have HO_5 := n0_; have HO392 := n1_; have HR389 := n2_; have HB := n3_; clear n0_ n1_ n2_ n3_; (try clear hb); (try clear hb2); (try clear hk); (try clear hi); (try clear ho0)) | ((with_reducible refine gate_dst (N := 9) rfl ?_); (try (refine gate_guard (by rfl) ?_; dsimp only)); refine box_event ?hg (N := 9) ?hd (cs := #[.int .i64 0, .int .i64 0]) (t := 32) ?hr ?_; (case hd => rfl); (case hg => rfl); (case hr => first | (go_simp; done) | (go_simp; rfl)); intro gb395 hg w28 hbox hb; have n0_ := Aside0.mk (Kd.R_below (by (with_reducible repeat (first | apply Kd.R_alloc | apply Kd.R_drewN | apply Kd.R_drew)); exact HO_5.out) hb); have n1_ := Aside0.mk (Kd.S_below (by (with_reducible repeat (first | apply Kd.S_alloc | apply Kd.S_drewN | apply Kd.S_drew)); exact HO392.out) hb); have n2_ := Aside0.mk (Kd.C_below (by repeat (first | (with_reducible exact HR389.out) | (with_reducible refine Kd.C_alloc ?_ _) | (with_reducible refine Kd.C_drewN ?_ _) | (with_reducible refine Kd.C_drew ?_) | exact HR389.out)) hb); have n3_ := Aside0.mk (below_step (by repeat (first | (with_reducible first | exact HB.out | apply below_alloc | apply pw_below_drewN | apply below_drew1) | exact HB.out)) hb); have n4_ := Aside0.mk (hbox); have n5_ := Aside0.mk ((by rw [hg]; exact (below_size (by repeat (first | (with_reducible first | exact HB.out | apply below_alloc | apply pw_below_drewN | apply below_drew1) | exact HB.out))) : w.heap.size ≤ gb395)); have n6_ := Aside0.mk ((by rw [hg]; exact (below_size (by repeat (first | (with_reducible first | exact HB.out | apply below_alloc | apply pw_below_drewN | apply below_drew1) | exact HB.out))) : w.heap.size ≤ gb395)); clear HO_5; clear HO392; clear HR389; clear HB; have HO_5 := n0_; have HO392 := n1_; have HR389 := n2_; have HB := n3_; have BK395 := n4_; have GW395 := n5_; have GE395 := n6_; clear n0_ n1_ n2_ n3_ n4_ n5_ n6_; clear hb hbox hg; have hcz29_0 : w28.cell? ⟨gb395, 0, none⟩ = some (.int .i64 0) := (blk_cell BK395.out 0).trans rfl; have hcz29_1 : w28.cell? ⟨gb395, 1, none⟩ = some (.int .i64 0) := (blk_cell BK395.out 1).trans rfl; have hfz29_0 := blk_frozen BK395.out 0; have hfz29_1 := blk_frozen BK395.out 1))
                    go_loopg [10, 11] kj13 (fun kq v10 v11 w' => ∃ (x10_3 : Int) (x11_3 : Int), v10 = .int .i64 x10_3 ∧ v11 = .int .i64 x11_3 ∧ Aside0 (umpirelaw10_DumpCuts.l0 kq l0 ji21 t390 x10_3 x11_3 t393 t394 = some r) ∧ Aside0 (kq ≤ kj13) ∧ Aside0 (Kd.S k37 37 w' w.heap.size (fun _ => True) v391 t390) ∧ Aside0 (w'.heap[gb395]? = some (.cells #[.int .i64 t393, .int .i64 t394] 32 (0, 0))) ∧ Aside0 (Below w.heap.size w w'))
                    case atStart => exact ⟨(0), (0), (by first | rfl | (simp; done) | (simp [*]; done)), (by first | rfl | (simp; done) | (simp [*]; done)), H', ⟨Nat.le_refl _⟩, ⟨by (with_reducible repeat (first | apply Kd.S_alloc | apply Kd.S_drewN | apply Kd.S_drew)); exact Kd.S_mono (Kd.S_far (p := ⟨gb395, 1, none⟩) (Kd.S_far (p := ⟨gb395, 0, none⟩) (Kd.S_types HO392.out BK395.out (by decide)) (fun _ hk => hk.2) (.int .i64 t393)) (fun _ hk => hk.2) (.int .i64 t394)) (fun _ hk => trivial)⟩, ⟨by (with_reducible repeat (first | refine blk_drewN ?_ _ | refine blk_drew ?_ | refine blk_alloc ?_ _)); refine blk_put (cs := #[.int .i64 t393, .int .i64 0]) ?_ 1 _ rfl; (with_reducible repeat (first | refine blk_drewN ?_ _ | refine blk_drew ?_ | refine blk_alloc ?_ _)); refine blk_put (cs := #[.int .i64 0, .int .i64 0]) ?_ 0 _ rfl; (with_reducible repeat (first | refine blk_drewN ?_ _ | refine blk_drew ?_ | refine blk_alloc ?_ _)); exact BK395.out⟩, ⟨by repeat (first | (with_reducible first | exact HB.out | apply below_alloc | apply pw_below_drewN | apply below_drew1 | refine below_set ?_ GE395.out) | exact HB.out)⟩⟩
                    case round =>
                      clear H'
                      try clear c1
                      try clear c2
                      try clear p2
                      try clear q2
                      try clear c5
                      try clear c6
                      try clear p6
                      try clear c9
                      try clear c10
                      try clear c11
                      try clear c13
                      try clear c16
                      try clear c16b0
                      try clear c16b1
                      try clear c18
                      try clear c19
                      try clear c19b0
                      try clear c19b1
                      try clear c20
                      try clear c20b0
                      try clear c20b1
                      try clear c20b2
                      try clear c22
                      try clear c22b0
                      try clear c22b1
                      try clear c23
                      try clear c23b0
                      try clear c23b1
                      try clear q26
                      try clear hcz29_0
                      try clear hcz29_1
                      try clear hfz29_0
                      try clear hfz29_1
                      try clear p2
                      try clear q26
                      obtain ⟨x10_3, x11_3, rfl, rfl, HA, HK3, HO_8, BK395, HB⟩ := hrel
                      cases gk with
                      | zero => exact absurd HA.out (by simp [umpirelaw10_DumpCuts.l0])
                      | succ k3 =>
                        have H := HA.out
                        clear HA
                        simp only [umpirelaw10_DumpCuts.l0] at H
                        by_cases c30 : x11_3 < (l0.length : Int)
                        · rw [if_pos c30] at H
                          have c30b0 : decide (x11_3 < (l0.length : Int)) = true := decide_eq_true c30
                          clear c30
                          by_cases c31 : 0 ≤ x11_3
                          · rw [if_pos c31] at H
                            have c31b0 := eq_true c31
                            have c31b1 : decide (0 ≤ x11_3) = true := decide_eq_true c31
                            clear c31
                            by_cases c32 : x11_3 ≤ (wrap64 (x11_3 + 1))
                            · rw [if_pos c32] at H
                              have c32b0 := eq_true c32
                              have c32b1 : decide (x11_3 ≤ (wrap64 (x11_3 + 1))) = true := decide_eq_true c32
                              by_cases c33 : (wrap64 (x11_3 + 1)) ≤ (l0.length : Int)
                              · rw [if_pos c33] at H
                                have c33b0 := eq_true c33
                                have c33b1 : decide ((wrap64 (x11_3 + 1)) ≤ (l0.length : Int)) = true := decide_eq_true c33
                                obtain ⟨y396, hy396⟩ : ∃ y_ : List (S37), y_ = ((l0.take ((wrap64 (x11_3 + 1)) : Int).toNat).drop (x11_3 : Int).toNat) := ⟨_, rfl⟩
                                replace H : ((dump_Put.f k3 y396).bind fun bt400 => (if x10_3 = ji21 then (if (t393 == 0 && (t394 == 0)) = true then (if x11_3 ≤ (l0.length : Int) then ((umpireref10_Same.f k3 t390 (l0.take (x11_3 : Int).toNat)).bind fun t408 => (some t408)) else (none)) else (none)) else (if (wrap64 (x10_3 + (bt400.1.length : Int))) > ji21 then (if (t393 == x10_3 && (t394 == 2)) = true then (if x11_3 ≤ (l0.length : Int) then ((umpireref10_Same.f k3 t390 (l0.take (x11_3 : Int).toNat)).bind fun t413 => (some t413)) else (none)) else (none)) else (umpirelaw10_DumpCuts.l0 k3 l0 ji21 t390 (wrap64 (x10_3 + (bt400.1.length : Int))) (wrap64 (x11_3 + 1)) t393 t394)))) = some r := by first | (rw [hy396]; with_reducible exact H) | (have H2_ := (Option.bind_some _ _).symm.trans H; rw [hy396]; with_reducible exact H2_) | (have H2_ := (Option.bind_some _ _).symm.trans H; with_reducible exact H2_) | with_reducible exact H | (rw [hy396]; exact H) | exact H
                                have Ny396 := Aside0.mk hy396
                                clear hy396
                                replace H := Option.bind_eq_some_iff.mp H
                                obtain ⟨⟨t400, t401⟩, A340, H⟩ := H
                                replace H : (if x10_3 = ji21 then (if (t393 == 0 && (t394 == 0)) = true then (if x11_3 ≤ (l0.length : Int) then ((umpireref10_Same.f k3 t390 (l0.take (x11_3 : Int).toNat)).bind fun t408 => (some t408)) else (none)) else (none)) else (if (wrap64 (x10_3 + (t400.length : Int))) > ji21 then (if (t393 == x10_3 && (t394 == 2)) = true then (if x11_3 ≤ (l0.length : Int) then ((umpireref10_Same.f k3 t390 (l0.take (x11_3 : Int).toNat)).bind fun t413 => (some t413)) else (none)) else (none)) else (umpirelaw10_DumpCuts.l0 k3 l0 ji21 t390 (wrap64 (x10_3 + (t400.length : Int))) (wrap64 (x11_3 + 1)) t393 t394))) = some r := H
                                have A34 := Aside0.mk A340
                                clear A340
                                by_cases c35 : x10_3 = ji21
                                · rw [if_pos c35] at H
                                  have c35b0 : (x10_3 == ji21) = true := beq_iff_eq.mpr c35
                                  have c35b1 : (x10_3 != ji21) = false := bne_eq_false_iff_eq.mpr c35
                                  clear c35
                                  by_cases c36 : (t393 == 0 && (t394 == 0)) = true
                                  · rw [if_pos c36] at H
                                    have c36b0 : (t393 == 0 && (t394 == 0)) = true := c36
                                    (try (have c36b1 : decide (t393 = 0 && (t394 == 0)) = true := by simpa using c36))
                                    (try (have c36b2 : (t393 == 0 && (t394 == 0)) = true := by simpa using c36))
                                    clear c36
                                    have c37b0 := eq_true (of_decide_eq_true (by first | (with_reducible assumption) | assumption) : 0 ≤ x11_3)
                                    by_cases c38 : x11_3 ≤ (l0.length : Int)
                                    · rw [if_pos c38] at H
                                      have c38b0 := eq_true c38
                                      have c38b1 : decide (x11_3 ≤ (l0.length : Int)) = true := decide_eq_true c38
                                      clear c38
                                      obtain ⟨y404, hy404⟩ : ∃ y_ : List (S37), y_ = (l0.take (x11_3 : Int).toNat) := ⟨_, rfl⟩
                                      replace H : ((umpireref10_Same.f k3 t390 y404).bind fun t408 => (some t408)) = some r := by first | (rw [hy404]; with_reducible exact H) | (have H2_ := (Option.bind_some _ _).symm.trans H; rw [hy404]; with_reducible exact H2_) | (have H2_ := (Option.bind_some _ _).symm.trans H; with_reducible exact H2_) | with_reducible exact H | (rw [hy404]; exact H) | exact H
                                      have Ny404 := Aside0.mk hy404
                                      clear hy404
                                      replace H := Option.bind_eq_some_iff.mp H
                                      obtain ⟨t408, A390, H⟩ := H
                                      replace H : (some t408) = some r := H
                                      have A39 := Aside0.mk A390
                                      clear A390
                                      obtain rfl := Option.some.inj H
                                      have q40 : ((wrap64 (x11_3 + 1)) : Int) ≤ ((l0.length : Int) : Int) := of_decide_eq_true (by first | (with_reducible assumption) | assumption)
                                      obtain ⟨i040, hi040, _, hsz40, _⟩ := info_parts info37
                                      have hroom40 : l0.length ≤ c0 := HC0.out
                                      have hC40 : Kd.C k37 _ A0 l0.length l0 := HR0.out
                                      have ql40 : (x11_3 : Int) ≤ ((wrap64 (x11_3 + 1)) : Int) := of_decide_eq_true (by first | (with_reducible assumption) | assumption)
                                      have q040 : (0 : Int) ≤ (x11_3 : Int) := of_decide_eq_true (by first | (with_reducible assumption) | assumption)
                                      have hcut40 := cut_mid (P := Tryd.prog) 22 37 .i64 .i64 Tryd.underlying22 hi040 3 hsz40 A0 l0.length c0 x11_3 (wrap64 (x11_3 + 1)) q040 ql40 q40 hroom40
                                      have hr40 := Kd.C_mid (lo := (x11_3 : Int).toNat) (hi := ((wrap64 (x11_3 + 1)) : Int).toNat) (c := c0) hC40 (by omega) (by omega) hroom40
                                      obtain ⟨A40, hA40⟩ : ∃ A1, A1 = (if c0 = (x11_3 : Int).toNat then A0 else (A0 : Option Addr).map (·.add ((x11_3 : Int).toNat * 3))) := ⟨_, rfl⟩
                                      obtain ⟨c40, hc40⟩ : ∃ c1, c1 = c0 - (x11_3 : Int).toNat := ⟨_, rfl⟩
                                      have hy40 : y396.length = ((wrap64 (x11_3 + 1)) : Int).toNat - (x11_3 : Int).toNat := (by rw [Ny396.out, List.length_drop, List.length_take] <;> omega)
                                      rw [show ((l0).take ((wrap64 (x11_3 + 1)) : Int).toNat).drop (x11_3 : Int).toNat = y396 from Ny396.out.symm] at hr40
                                      replace hr40 : Kd.C k37 _ A40 y396.length y396 := (by rw [hA40]; exact hr40)
                                      rw [← hy40, ← hA40, ← hc40] at hcut40
                                      have HR399 := Aside0.mk hr40
                                      have HC399 := Aside0.mk (show y396.length ≤ c40 from by rw [hy40, hc40]; exact Nat.sub_le_sub_right (Nat.le_trans (by omega) hroom40) _)
                                      clear hr40 hC40 hroom40 hi040 hsz40 hc40
                                      have KY40 := Aside0.mk hy40
                                      have KA40 := Aside0.mk hA40
                                      clear hy40 hA40
                                      replace q40 := eq_true q40
                                      go_wp2_with (first | ((with_reducible refine gate_callee (f := 11) rfl ?_); refine goesL_ (some 65) rfl rfl Tryd.func11 (by kernel_rfl) rfl #[.slice A40 y396.length c40] rfl (by (try simp only [List.map_toArray, List.map_cons, List.map_nil]); first | done | rfl | (simp only [List.length_drop, List.length_take]; rfl)) ?_; (with_reducible refine (dump_Put.calls k3 _ _ y396 t400 t401 _ ?side1 ?side2 ?side3 A34.out).mono ?_); (case side1 => repeat (first | exact (Kd.C_below HRG0.out HB.out) | (with_reducible refine Kd.C_alloc ?_ _) | (with_reducible refine Kd.C_drewN ?_ _) | (with_reducible refine Kd.C_drew ?_))); (case side2 => repeat (first | exact (Kd.C_below HR399.out HB.out) | (with_reducible refine Kd.C_alloc ?_ _) | (with_reducible refine Kd.C_drewN ?_ _) | (with_reducible refine Kd.C_drew ?_))); (case side3 => exact HC399.out); rintro e w41 ⟨v402, rfl, ho0, hb⟩; refine ⟨_, rfl, ?_⟩; have n0_ := Aside0.mk (Kd.S_elder' (by (with_reducible repeat (first | apply Kd.S_alloc | apply Kd.S_drewN | apply Kd.S_drew)); exact HO_8.out) (by first | exact Kd.R_base ho0 | exact Kd.N_base (Kd.S_N (Kd.S_bound ho0)) | exact Kd.R_base ho0 | exact Kd.S_base ho0) hb); have n1_ := Aside0.mk (Kd.R_lower ho0 (below_size (by repeat (first | (with_reducible first | exact HB.out | apply below_alloc | apply pw_below_drewN | apply below_drew1 | refine below_set ?_ GE395.out) | exact HB.out)))); have n2_ := Aside0.mk (blk_below (g := gb395) (o := .cells #[.int .i64 t393, .int .i64 t394] 32 (0, 0)) (by (with_reducible repeat (first | refine blk_drewN ?_ _ | refine blk_drew ?_ | refine blk_alloc ?_ _)); exact BK395.out) hb); have n3_ := Aside0.mk (below_step (by repeat (first | (with_reducible first | exact HB.out | apply below_alloc | apply pw_below_drewN | apply below_drew1 | refine below_set ?_ GE395.out) | exact HB.out)) hb); clear HO_8; clear BK395; clear HB; have HO_8 := n0_; have HO403 := n1_; have BK395 := n2_; have HB := n3_; clear n0_ n1_ n2_ n3_; (try clear hb); (try clear hb2); (try clear hk); (try clear hi); (try clear ho0); have hcz42_0 : w41.cell? ⟨gb395, 0, none⟩ = some (.int .i64 t393) := (blk_cell BK395.out 0).trans rfl; have hcz42_1 : w41.cell? ⟨gb395, 1, none⟩ = some (.int .i64 t394) := (blk_cell BK395.out 1).trans rfl; have hfz42_0 := blk_frozen BK395.out 0; have hfz42_1 := blk_frozen BK395.out 1; have q43 : (x11_3 : Int) ≤ ((l0.length : Int) : Int) := of_decide_eq_true (by first | (with_reducible assumption) | assumption); obtain ⟨i043, hi043, _, hsz43, _⟩ := info_parts info37; have hroom43 : l0.length ≤ c0 := HC0.out; have hC43 : Kd.C k37 _ A0 l0.length l0 := HR0.out; have hcut43 := cut_to (P := Tryd.prog) 22 37 .i64 Tryd.underlying22 hi043 A0 l0.length c0 x11_3 (of_decide_eq_true (by first | (with_reducible assumption) | assumption)) q43 hroom43; have hr43 := Kd.C_take (m := (x11_3 : Int).toNat) hC43 (by omega); have hy43 : y404.length = (x11_3 : Int).toNat := (by rw [Ny404.out, List.length_take]; omega); rw [← Ny404.out] at hr43; rw [← hy43] at hcut43; have HR407 := Aside0.mk hr43; have HC407 := Aside0.mk (show y404.length ≤ c0 from by omega); clear hr43 hC43 hroom43 hi043 hsz43; have KY43 := Aside0.mk hy43; clear hy43; replace q43 := eq_true q43; obtain ⟨Ao44, co44, eo44⟩ := Kd.S_slice HO_8.out; subst eo44) | (go_at_call 17; (with_reducible refine (umpireref10_Same.calls k3 _ _ t390 _ _ y404 t408 _ ?side1 ?side2 ?side3 ?side4 A39.out).mono ?_); (case side1 => repeat (first | exact (Kd.S_reads' HO_8.out).2.2 | (with_reducible refine Kd.C_alloc ?_ _) | (with_reducible refine Kd.C_drewN ?_ _) | (with_reducible refine Kd.C_drew ?_))); (case side2 => exact (Kd.S_reads' HO_8.out).2.1); (case side3 => repeat (first | exact (Kd.C_below HR407.out HB.out) | (with_reducible refine Kd.C_alloc ?_ _) | (with_reducible refine Kd.C_drewN ?_ _) | (with_reducible refine Kd.C_drew ?_))); (case side4 => exact HC407.out); rintro e w' ⟨rfl, ⟨nd, rfl⟩⟩))
                                      go_ret
                                      exact ⟨by first | rfl | (simp [errW_none, errW_some] <;> rfl) | (simp only [← hji21]; first | rfl | (simp [errW_none, errW_some] <;> rfl)) | (simp [*, errW_none, errW_some] <;> rfl), by repeat (first | (with_reducible first | exact HB.out | apply below_alloc | apply pw_below_drewN | apply below_drew1 | refine below_set ?_ GE395.out) | exact HB.out)⟩
                                    · rw [if_neg c38] at H
                                      exact absurd H (by simp)
                                  · rw [if_neg c36] at H
                                    exact absurd H (by simp)
                                · rw [if_neg c35] at H
                                  have c35b0 : (x10_3 == ji21) = false := beq_eq_false_iff_ne.mpr c35
                                  have c35b1 : (x10_3 != ji21) = true := bne_iff_ne.mpr c35
                                  by_cases c45 : (wrap64 (x10_3 + (t400.length : Int))) > ji21
                                  · rw [if_pos c45] at H
                                    have c45b0 : decide (ji21 < (wrap64 (x10_3 + (t400.length : Int)))) = true := decide_eq_true c45
                                    clear c45
                                    by_cases c46 : (t393 == x10_3 && (t394 == 2)) = true
                                    · rw [if_pos c46] at H
                                      have c46b0 : (t393 == x10_3 && (t394 == 2)) = true := c46
                                      (try (have c46b1 : decide (t393 = x10_3 && (t394 == 2)) = true := by simpa using c46))
                                      (try (have c46b2 : (t393 == x10_3 && (t394 == 2)) = true := by simpa using c46))
                                      clear c46
                                      have c47b0 := eq_true (of_decide_eq_true (by first | (with_reducible assumption) | assumption) : 0 ≤ x11_3)
                                      by_cases c48 : x11_3 ≤ (l0.length : Int)
                                      · rw [if_pos c48] at H
                                        have c48b0 := eq_true c48
                                        have c48b1 : decide (x11_3 ≤ (l0.length : Int)) = true := decide_eq_true c48
                                        clear c48
                                        obtain ⟨y409, hy409⟩ : ∃ y_ : List (S37), y_ = (l0.take (x11_3 : Int).toNat) := ⟨_, rfl⟩
                                        replace H : ((umpireref10_Same.f k3 t390 y409).bind fun t413 => (some t413)) = some r := by first | (rw [hy409]; with_reducible exact H) | (have H2_ := (Option.bind_some _ _).symm.trans H; rw [hy409]; with_reducible exact H2_) | (have H2_ := (Option.bind_some _ _).symm.trans H; with_reducible exact H2_) | with_reducible exact H | (rw [hy409]; exact H) | exact H
                                        have Ny409 := Aside0.mk hy409
                                        clear hy409
                                        replace H := Option.bind_eq_some_iff.mp H
                                        obtain ⟨t413, A490, H⟩ := H
                                        replace H : (some t413) = some r := H
                                        have A49 := Aside0.mk A490
                                        clear A490
                                        obtain rfl := Option.some.inj H
                                        have q50 : ((wrap64 (x11_3 + 1)) : Int) ≤ ((l0.length : Int) : Int) := of_decide_eq_true (by first | (with_reducible assumption) | assumption)
                                        obtain ⟨i050, hi050, _, hsz50, _⟩ := info_parts info37
                                        have hroom50 : l0.length ≤ c0 := HC0.out
                                        have hC50 : Kd.C k37 _ A0 l0.length l0 := HR0.out
                                        have ql50 : (x11_3 : Int) ≤ ((wrap64 (x11_3 + 1)) : Int) := of_decide_eq_true (by first | (with_reducible assumption) | assumption)
                                        have q050 : (0 : Int) ≤ (x11_3 : Int) := of_decide_eq_true (by first | (with_reducible assumption) | assumption)
                                        have hcut50 := cut_mid (P := Tryd.prog) 22 37 .i64 .i64 Tryd.underlying22 hi050 3 hsz50 A0 l0.length c0 x11_3 (wrap64 (x11_3 + 1)) q050 ql50 q50 hroom50
                                        have hr50 := Kd.C_mid (lo := (x11_3 : Int).toNat) (hi := ((wrap64 (x11_3 + 1)) : Int).toNat) (c := c0) hC50 (by omega) (by omega) hroom50
                                        obtain ⟨A50, hA50⟩ : ∃ A1, A1 = (if c0 = (x11_3 : Int).toNat then A0 else (A0 : Option Addr).map (·.add ((x11_3 : Int).toNat * 3))) := ⟨_, rfl⟩
                                        obtain ⟨c50, hc50⟩ : ∃ c1, c1 = c0 - (x11_3 : Int).toNat := ⟨_, rfl⟩
                                        have hy50 : y396.length = ((wrap64 (x11_3 + 1)) : Int).toNat - (x11_3 : Int).toNat := (by rw [Ny396.out, List.length_drop, List.length_take] <;> omega)
                                        rw [show ((l0).take ((wrap64 (x11_3 + 1)) : Int).toNat).drop (x11_3 : Int).toNat = y396 from Ny396.out.symm] at hr50
                                        replace hr50 : Kd.C k37 _ A50 y396.length y396 := (by rw [hA50]; exact hr50)
                                        rw [← hy50, ← hA50, ← hc50] at hcut50
                                        have HR399 := Aside0.mk hr50
                                        have HC399 := Aside0.mk (show y396.length ≤ c50 from by rw [hy50, hc50]; exact Nat.sub_le_sub_right (Nat.le_trans (by omega) hroom50) _)
                                        clear hr50 hC50 hroom50 hi050 hsz50 hc50
                                        have KY50 := Aside0.mk hy50
                                        have KA50 := Aside0.mk hA50
                                        clear hy50 hA50
                                        replace q50 := eq_true q50
                                        go_wp2_with (first | ((with_reducible refine gate_callee (f := 11) rfl ?_); refine goesL_ (some 65) rfl rfl Tryd.func11 (by kernel_rfl) rfl #[.slice A50 y396.length c50] rfl (by (try simp only [List.map_toArray, List.map_cons, List.map_nil]); first | done | rfl | (simp only [List.length_drop, List.length_take]; rfl)) ?_; (with_reducible refine (dump_Put.calls k3 _ _ y396 t400 t401 _ ?side1 ?side2 ?side3 A34.out).mono ?_); (case side1 => repeat (first | exact (Kd.C_below HRG0.out HB.out) | (with_reducible refine Kd.C_alloc ?_ _) | (with_reducible refine Kd.C_drewN ?_ _) | (with_reducible refine Kd.C_drew ?_))); (case side2 => repeat (first | exact (Kd.C_below HR399.out HB.out) | (with_reducible refine Kd.C_alloc ?_ _) | (with_reducible refine Kd.C_drewN ?_ _) | (with_reducible refine Kd.C_drew ?_))); (case side3 => exact HC399.out); rintro e w51 ⟨v402, rfl, ho0, hb⟩; refine ⟨_, rfl, ?_⟩; have n0_ := Aside0.mk (Kd.S_elder' (by (with_reducible repeat (first | apply Kd.S_alloc | apply Kd.S_drewN | apply Kd.S_drew)); exact HO_8.out) (by first | exact Kd.R_base ho0 | exact Kd.N_base (Kd.S_N (Kd.S_bound ho0)) | exact Kd.R_base ho0 | exact Kd.S_base ho0) hb); have n1_ := Aside0.mk (Kd.R_lower ho0 (below_size (by repeat (first | (with_reducible first | exact HB.out | apply below_alloc | apply pw_below_drewN | apply below_drew1 | refine below_set ?_ GE395.out) | exact HB.out)))); have n2_ := Aside0.mk (blk_below (g := gb395) (o := .cells #[.int .i64 t393, .int .i64 t394] 32 (0, 0)) (by (with_reducible repeat (first | refine blk_drewN ?_ _ | refine blk_drew ?_ | refine blk_alloc ?_ _)); exact BK395.out) hb); have n3_ := Aside0.mk (below_step (by repeat (first | (with_reducible first | exact HB.out | apply below_alloc | apply pw_below_drewN | apply below_drew1 | refine below_set ?_ GE395.out) | exact HB.out)) hb); clear HO_8; clear BK395; clear HB; have HO_8 := n0_; have HO403 := n1_; have BK395 := n2_; have HB := n3_; clear n0_ n1_ n2_ n3_; (try clear hb); (try clear hb2); (try clear hk); (try clear hi); (try clear ho0); obtain ⟨Ao52, co52, eo52⟩ := Kd.R_slice HO403.out; subst eo52; have hcz53_0 : w51.cell? ⟨gb395, 0, none⟩ = some (.int .i64 t393) := (blk_cell BK395.out 0).trans rfl; have hcz53_1 : w51.cell? ⟨gb395, 1, none⟩ = some (.int .i64 t394) := (blk_cell BK395.out 1).trans rfl; have hfz53_0 := blk_frozen BK395.out 0; have hfz53_1 := blk_frozen BK395.out 1; have q54 : (x11_3 : Int) ≤ ((l0.length : Int) : Int) := of_decide_eq_true (by first | (with_reducible assumption) | assumption); obtain ⟨i054, hi054, _, hsz54, _⟩ := info_parts info37; have hroom54 : l0.length ≤ c0 := HC0.out; have hC54 : Kd.C k37 _ A0 l0.length l0 := HR0.out; have hcut54 := cut_to (P := Tryd.prog) 22 37 .i64 Tryd.underlying22 hi054 A0 l0.length c0 x11_3 (of_decide_eq_true (by first | (with_reducible assumption) | assumption)) q54 hroom54; have hr54 := Kd.C_take (m := (x11_3 : Int).toNat) hC54 (by omega); have hy54 : y409.length = (x11_3 : Int).toNat := (by rw [Ny409.out, List.length_take]; omega); rw [← Ny409.out] at hr54; rw [← hy54] at hcut54; have HR412 := Aside0.mk hr54; have HC412 := Aside0.mk (show y409.length ≤ c0 from by omega); clear hr54 hC54 hroom54 hi054 hsz54; have KY54 := Aside0.mk hy54; clear hy54; replace q54 := eq_true q54; obtain ⟨Ao55, co55, eo55⟩ := Kd.S_slice HO_8.out; subst eo55) | (go_at_call 17; (with_reducible refine (umpireref10_Same.calls k3 _ _ t390 _ _ y409 t413 _ ?side1 ?side2 ?side3 ?side4 A49.out).mono ?_); (case side1 => repeat (first | exact (Kd.S_reads' HO_8.out).2.2 | (with_reducible refine Kd.C_alloc ?_ _) | (with_reducible refine Kd.C_drewN ?_ _) | (with_reducible refine Kd.C_drew ?_))); (case side2 => exact (Kd.S_reads' HO_8.out).2.1); (case side3 => repeat (first | exact (Kd.C_below HR412.out HB.out) | (with_reducible refine Kd.C_alloc ?_ _) | (with_reducible refine Kd.C_drewN ?_ _) | (with_reducible refine Kd.C_drew ?_))); (case side4 => exact HC412.out); rintro e w' ⟨rfl, ⟨nd, rfl⟩⟩))
                                        go_ret
                                        exact ⟨by first | rfl | (simp [errW_none, errW_some] <;> rfl) | (simp only [← hji21]; first | rfl | (simp [errW_none, errW_some] <;> rfl)) | (simp [*, errW_none, errW_some] <;> rfl), by repeat (first | (with_reducible first | exact HB.out | apply below_alloc | apply pw_below_drewN | apply below_drew1 | refine below_set ?_ GE395.out) | exact HB.out)⟩
                                      · rw [if_neg c48] at H
                                        exact absurd H (by simp)
                                    · rw [if_neg c46] at H
                                      exact absurd H (by simp)
                                  · rw [if_neg c45] at H
                                    have c45b0 : decide (ji21 < (wrap64 (x10_3 + (t400.length : Int)))) = false := decide_eq_false c45
                                    clear c45
                                    have H' := Aside0.mk H
                                    clear H
                                    have q56 : ((wrap64 (x11_3 + 1)) : Int) ≤ ((l0.length : Int) : Int) := of_decide_eq_true (by first | (with_reducible assumption) | assumption)
                                    obtain ⟨i056, hi056, _, hsz56, _⟩ := info_parts info37
                                    have hroom56 : l0.length ≤ c0 := HC0.out
                                    have hC56 : Kd.C k37 _ A0 l0.length l0 := HR0.out
                                    have ql56 : (x11_3 : Int) ≤ ((wrap64 (x11_3 + 1)) : Int) := of_decide_eq_true (by first | (with_reducible assumption) | assumption)
                                    have q056 : (0 : Int) ≤ (x11_3 : Int) := of_decide_eq_true (by first | (with_reducible assumption) | assumption)
                                    have hcut56 := cut_mid (P := Tryd.prog) 22 37 .i64 .i64 Tryd.underlying22 hi056 3 hsz56 A0 l0.length c0 x11_3 (wrap64 (x11_3 + 1)) q056 ql56 q56 hroom56
                                    have hr56 := Kd.C_mid (lo := (x11_3 : Int).toNat) (hi := ((wrap64 (x11_3 + 1)) : Int).toNat) (c := c0) hC56 (by omega) (by omega) hroom56
                                    obtain ⟨A56, hA56⟩ : ∃ A1, A1 = (if c0 = (x11_3 : Int).toNat then A0 else (A0 : Option Addr).map (·.add ((x11_3 : Int).toNat * 3))) := ⟨_, rfl⟩
                                    obtain ⟨c56, hc56⟩ : ∃ c1, c1 = c0 - (x11_3 : Int).toNat := ⟨_, rfl⟩
                                    have hy56 : y396.length = ((wrap64 (x11_3 + 1)) : Int).toNat - (x11_3 : Int).toNat := (by rw [Ny396.out, List.length_drop, List.length_take] <;> omega)
                                    rw [show ((l0).take ((wrap64 (x11_3 + 1)) : Int).toNat).drop (x11_3 : Int).toNat = y396 from Ny396.out.symm] at hr56
                                    replace hr56 : Kd.C k37 _ A56 y396.length y396 := (by rw [hA56]; exact hr56)
                                    rw [← hy56, ← hA56, ← hc56] at hcut56
                                    have HR399 := Aside0.mk hr56
                                    have HC399 := Aside0.mk (show y396.length ≤ c56 from by rw [hy56, hc56]; exact Nat.sub_le_sub_right (Nat.le_trans (by omega) hroom56) _)
                                    clear hr56 hC56 hroom56 hi056 hsz56 hc56
                                    have KY56 := Aside0.mk hy56
                                    have KA56 := Aside0.mk hA56
                                    clear hy56 hA56
                                    replace q56 := eq_true q56
                                    go_wp2_with (first | ((with_reducible refine gate_callee (f := 11) rfl ?_); refine goesL_ (some 65) rfl rfl Tryd.func11 (by kernel_rfl) rfl #[.slice A56 y396.length c56] rfl (by (try simp only [List.map_toArray, List.map_cons, List.map_nil]); first | done | rfl | (simp only [List.length_drop, List.length_take]; rfl)) ?_; (with_reducible refine (dump_Put.calls k3 _ _ y396 t400 t401 _ ?side1 ?side2 ?side3 A34.out).mono ?_); (case side1 => repeat (first | exact (Kd.C_below HRG0.out HB.out) | (with_reducible refine Kd.C_alloc ?_ _) | (with_reducible refine Kd.C_drewN ?_ _) | (with_reducible refine Kd.C_drew ?_))); (case side2 => repeat (first | exact (Kd.C_below HR399.out HB.out) | (with_reducible refine Kd.C_alloc ?_ _) | (with_reducible refine Kd.C_drewN ?_ _) | (with_reducible refine Kd.C_drew ?_))); (case side3 => exact HC399.out); rintro e w57 ⟨v402, rfl, ho0, hb⟩; refine ⟨_, rfl, ?_⟩; have n0_ := Aside0.mk (Kd.S_elder' (by (with_reducible repeat (first | apply Kd.S_alloc | apply Kd.S_drewN | apply Kd.S_drew)); exact HO_8.out) (by first | exact Kd.R_base ho0 | exact Kd.N_base (Kd.S_N (Kd.S_bound ho0)) | exact Kd.R_base ho0 | exact Kd.S_base ho0) hb); have n1_ := Aside0.mk (Kd.R_lower ho0 (below_size (by repeat (first | (with_reducible first | exact HB.out | apply below_alloc | apply pw_below_drewN | apply below_drew1 | refine below_set ?_ GE395.out) | exact HB.out)))); have n2_ := Aside0.mk (blk_below (g := gb395) (o := .cells #[.int .i64 t393, .int .i64 t394] 32 (0, 0)) (by (with_reducible repeat (first | refine blk_drewN ?_ _ | refine blk_drew ?_ | refine blk_alloc ?_ _)); exact BK395.out) hb); have n3_ := Aside0.mk (below_step (by repeat (first | (with_reducible first | exact HB.out | apply below_alloc | apply pw_below_drewN | apply below_drew1 | refine below_set ?_ GE395.out) | exact HB.out)) hb); clear HO_8; clear BK395; clear HB; have HO_8 := n0_; have HO403 := n1_; have BK395 := n2_; have HB := n3_; clear n0_ n1_ n2_ n3_; (try clear hb); (try clear hb2); (try clear hk); (try clear hi); (try clear ho0); obtain ⟨Ao58, co58, eo58⟩ := Kd.R_slice HO403.out; subst eo58))
                                    go_roundg k3
                                    case measure => have := HJ2.out; have := HJ13.out; have := HK3.out; omega
                                    case rel => exact ⟨(wrap64 (x10_3 + (t400.length : Int))), (wrap64 (x11_3 + 1)), (by first | rfl | (simp; done) | (simp [*]; done)), (by first | rfl | (simp; done) | (simp [*]; done)), H', ⟨by have := HJ2.out; have := HJ13.out; have := HK3.out; omega⟩, ⟨by (with_reducible repeat (first | apply Kd.S_alloc | apply Kd.S_drewN | apply Kd.S_drew)); exact Kd.S_mono HO_8.out (fun _ hk => trivial)⟩, ⟨by (with_reducible repeat (first | refine blk_drewN ?_ _ | refine blk_drew ?_ | refine blk_alloc ?_ _)); exact BK395.out⟩, ⟨by repeat (first | (with_reducible first | exact HB.out | apply below_alloc | apply pw_below_drewN | apply below_drew1 | refine below_set ?_ GE395.out) | exact HB.out)⟩⟩
                              · rw [if_neg c33] at H
                                exact absurd H (by simp)
                            · rw [if_neg c32] at H
                              exact absurd H (by simp)
                          · rw [if_neg c31] at H
                            exact absurd H (by simp)
                        · rw [if_neg c30] at H
                          exact absurd H (by simp)
                  · rw [if_neg c23] at H
                    exact absurd H (by simp)
                · rw [if_neg c22] at H
                  exact absurd H (by simp)

end Go.Proofs.YtnokndhppdkmdaaDoor.Print
