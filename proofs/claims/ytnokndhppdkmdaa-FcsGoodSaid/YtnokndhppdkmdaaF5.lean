-- laid by this session's own program (wip/mkprint.sh) for this claim
import Derived.Test.Ytnokndhppdkmdaa0
import Derived.Test.YtnokndhppdkmdaaF14
import Derived.Test.YtnokndhppdkmdaaF16
import Derived.Test.YtnokndhppdkmdaaF18
import Derived.Test.YtnokndhppdkmdaaF19
import Derived.Test.YtnokndhppdkmdaaF9
namespace Go.Proofs.Ytnokndhppdkmdaa.Print
open Go.RowKit Go.Proofs.YtnokndhppdkmdaaW.PrintWords Go.Proofs.YtnokndhppdkmdaaW.PrintLast Go.Proofs.YtnokndhppdkmdaaW.PrintMore
attribute [local go_sem] max2_int min2_int max_two min_two max_three min_three max_four min_four   -- for this text's walks alone
set_option linter.unusedVariables false
set_option linter.unusedSimpArgs false

/-! ### umpirelaw04_FcsGood: function 5 -/
mutual
def umpirelaw04_FcsGood.j0 : Nat → List Int → Bool → Int → Int → Bool → Option (Bool)
  | 0, _, _, _, _, _ => none
  | k + 1, x0, x1, x2, x3, x22 => if x22 = true then ((umpirelaw04_awake.f k).bind fun t189 => (some t189)) else ((fcs_Seal.f k x0 x1).bind fun t190 => ((fcs_Open.f t190 x1).bind fun bt193 => ((fcs_Size.f x1).bind fun t197 => (if bt193.2 = true then (if (strOfNums bt193.1).toList = (strOfNums x0).toList then ((fcs_Good.f t190 x1).bind fun t198 => (if t198 = true then ((fcs_Size.f x1).bind fun t199 => (umpirelaw04_FcsGood.j1 k x1 x2 x3 t190 (wrap64 (8 * t197)) ((t190.length : Int) != (wrap64 ((x0.length : Int) + t199))))) else (umpirelaw04_FcsGood.j1 k x1 x2 x3 t190 (wrap64 (8 * t197)) true))) else (umpirelaw04_FcsGood.j1 k x1 x2 x3 t190 (wrap64 (8 * t197)) true)) else (umpirelaw04_FcsGood.j1 k x1 x2 x3 t190 (wrap64 (8 * t197)) true)))))
def umpirelaw04_FcsGood.j1 : Nat → Bool → Int → Int → List Int → Int → Bool → Option (Bool)
  | 0, _, _, _, _, _, _ => none
  | k + 1, x1, x2, x3, x9, x12, x60 => if x60 = true then (none) else (if (wrap64 (8 * (x9.length : Int))) = 0 then (none) else (umpirelaw04_FcsGood.l0 k x1 x3 x9 x12 (Int.tmod (wrap64 (x2)) (wrap64 (8 * (x9.length : Int)))) false 0))
def umpirelaw04_FcsGood.l0 : Nat → Bool → Int → List Int → Int → Int → Bool → Int → Option (Bool)
  | 0, _, _, _, _, _, _, _ => none
  | k + 1, x1, x3, x9, x12, x13, x14, x15 => if x15 < x12 then (umpirelaw04_FcsGood.j3 k x1 x3 x9 x12 x13 x14 x15 (decide ((wrap64 (x13 + x15)) < (wrap64 (8 * (x9.length : Int)))))) else (umpirelaw04_FcsGood.j3 k x1 x3 x9 x12 x13 x14 x15 false)
def umpirelaw04_FcsGood.j3 : Nat → Bool → Int → List Int → Int → Int → Bool → Int → Bool → Option (Bool)
  | 0, _, _, _, _, _, _, _, _ => none
  | k + 1, x1, x3, x9, x12, x13, x14, x15, x78 => if x78 = true then (if 0 ≤ (IntKind.u64.wrap (x15)) then (if (Go.bits .and .u32 (shr .u32 x3 (IntKind.u64.wrap (x15))) 1) = 1 then (if 0 ≤ (wrap64 (Int.tdiv (wrap64 (x13 + x15)) 8)) then (if (wrap64 (Int.tdiv (wrap64 (x13 + x15)) 8)) < (x9.length : Int) then (if 0 ≤ (IntKind.u64.wrap (Int.tmod (wrap64 (x13 + x15)) 8)) then (umpirelaw04_FcsGood.l0 k x1 x3 (x9.set ((wrap64 (Int.tdiv (wrap64 (x13 + x15)) 8)) : Int).toNat (Go.bits .xor .u8 (rd x9 (wrap64 (Int.tdiv (wrap64 (x13 + x15)) 8))) (shl .u8 1 (IntKind.u64.wrap (Int.tmod (wrap64 (x13 + x15)) 8))))) x12 x13 true (wrap64 (x15 + 1))) else (none)) else (none)) else (none)) else (umpirelaw04_FcsGood.l0 k x1 x3 x9 x12 x13 x14 (wrap64 (x15 + 1)))) else (none)) else ((fcs_Good.f x9 x1).bind fun t202 => (some (t202 == (!x14))))
end
def umpirelaw04_FcsGood.f (k : Nat) (l0 : List Int) (a1 : Bool) (a2 : Int) (a3 : Int) : Option (Bool) := (umpirelaw04_awake.f k).bind fun t188 => (if t188 = true then (umpirelaw04_FcsGood.j0 k l0 a1 a2 a3 (decide ((l0.length : Int) > 2000))) else (umpirelaw04_FcsGood.j0 k l0 a1 a2 a3 true))
theorem umpirelaw04_FcsGood.mono_l : ∀ k, (∀ y0 y1 y2 y3 y4, LeO (umpirelaw04_FcsGood.j0 k y0 y1 y2 y3 y4) (umpirelaw04_FcsGood.j0 (k + 1) y0 y1 y2 y3 y4)) ∧ (∀ y0 y1 y2 y3 y4 y5, LeO (umpirelaw04_FcsGood.j1 k y0 y1 y2 y3 y4 y5) (umpirelaw04_FcsGood.j1 (k + 1) y0 y1 y2 y3 y4 y5)) ∧ (∀ y0 y1 y2 y3 y4 y5 y6, LeO (umpirelaw04_FcsGood.l0 k y0 y1 y2 y3 y4 y5 y6) (umpirelaw04_FcsGood.l0 (k + 1) y0 y1 y2 y3 y4 y5 y6)) ∧ (∀ y0 y1 y2 y3 y4 y5 y6 y7, LeO (umpirelaw04_FcsGood.j3 k y0 y1 y2 y3 y4 y5 y6 y7) (umpirelaw04_FcsGood.j3 (k + 1) y0 y1 y2 y3 y4 y5 y6 y7))
  | 0 => ⟨fun _ _ _ _ _ r h => by simp [umpirelaw04_FcsGood.j0] at h, fun _ _ _ _ _ _ r h => by simp [umpirelaw04_FcsGood.j1] at h, fun _ _ _ _ _ _ _ r h => by simp [umpirelaw04_FcsGood.l0] at h, fun _ _ _ _ _ _ _ _ r h => by simp [umpirelaw04_FcsGood.j3] at h⟩
  | k + 1 => by
    obtain ⟨ih0, ih1, ih2, ih3⟩ := umpirelaw04_FcsGood.mono_l k
    refine ⟨?_, ?_, ?_, ?_⟩
    · intro y0 y1 y2 y3 y4
      unfold umpirelaw04_FcsGood.j0
      repeat' first
      | (with_reducible exact ih0 _ _ _ _ _)
      | (with_reducible exact ih1 _ _ _ _ _ _)
      | (with_reducible exact ih2 _ _ _ _ _ _ _)
      | (with_reducible exact ih3 _ _ _ _ _ _ _ _)
      | (with_reducible exact fcs_Seal.mono _ _ _)
      | (with_reducible exact umpirelaw04_awake.mono _)
      | (with_reducible exact LeO.refl _)
      | (with_reducible exact LeO.none _)
      | (with_reducible refine LeO.ite ?_ ?_)
      | (with_reducible refine LeO.bind ?_ (fun _ => ?_))
      | exact ih0 _ _ _ _ _
      | exact ih1 _ _ _ _ _ _
      | exact ih2 _ _ _ _ _ _ _
      | exact ih3 _ _ _ _ _ _ _ _
      | exact fcs_Seal.mono _ _ _
      | exact umpirelaw04_awake.mono _
      | exact LeO.none _
      | refine LeO.ite ?_ ?_
      | refine LeO.bind ?_ (fun _ => ?_)
    · intro y0 y1 y2 y3 y4 y5
      unfold umpirelaw04_FcsGood.j1
      repeat' first
      | (with_reducible exact ih0 _ _ _ _ _)
      | (with_reducible exact ih1 _ _ _ _ _ _)
      | (with_reducible exact ih2 _ _ _ _ _ _ _)
      | (with_reducible exact ih3 _ _ _ _ _ _ _ _)
      | (with_reducible exact fcs_Seal.mono _ _ _)
      | (with_reducible exact umpirelaw04_awake.mono _)
      | (with_reducible exact LeO.refl _)
      | (with_reducible exact LeO.none _)
      | (with_reducible refine LeO.ite ?_ ?_)
      | (with_reducible refine LeO.bind ?_ (fun _ => ?_))
      | exact ih0 _ _ _ _ _
      | exact ih1 _ _ _ _ _ _
      | exact ih2 _ _ _ _ _ _ _
      | exact ih3 _ _ _ _ _ _ _ _
      | exact fcs_Seal.mono _ _ _
      | exact umpirelaw04_awake.mono _
      | exact LeO.none _
      | refine LeO.ite ?_ ?_
      | refine LeO.bind ?_ (fun _ => ?_)
    · intro y0 y1 y2 y3 y4 y5 y6
      unfold umpirelaw04_FcsGood.l0
      repeat' first
      | (with_reducible exact ih0 _ _ _ _ _)
      | (with_reducible exact ih1 _ _ _ _ _ _)
      | (with_reducible exact ih2 _ _ _ _ _ _ _)
      | (with_reducible exact ih3 _ _ _ _ _ _ _ _)
      | (with_reducible exact fcs_Seal.mono _ _ _)
      | (with_reducible exact umpirelaw04_awake.mono _)
      | (with_reducible exact LeO.refl _)
      | (with_reducible exact LeO.none _)
      | (with_reducible refine LeO.ite ?_ ?_)
      | (with_reducible refine LeO.bind ?_ (fun _ => ?_))
      | exact ih0 _ _ _ _ _
      | exact ih1 _ _ _ _ _ _
      | exact ih2 _ _ _ _ _ _ _
      | exact ih3 _ _ _ _ _ _ _ _
      | exact fcs_Seal.mono _ _ _
      | exact umpirelaw04_awake.mono _
      | exact LeO.none _
      | refine LeO.ite ?_ ?_
      | refine LeO.bind ?_ (fun _ => ?_)
    · intro y0 y1 y2 y3 y4 y5 y6 y7
      unfold umpirelaw04_FcsGood.j3
      repeat' first
      | (with_reducible exact ih0 _ _ _ _ _)
      | (with_reducible exact ih1 _ _ _ _ _ _)
      | (with_reducible exact ih2 _ _ _ _ _ _ _)
      | (with_reducible exact ih3 _ _ _ _ _ _ _ _)
      | (with_reducible exact fcs_Seal.mono _ _ _)
      | (with_reducible exact umpirelaw04_awake.mono _)
      | (with_reducible exact LeO.refl _)
      | (with_reducible exact LeO.none _)
      | (with_reducible refine LeO.ite ?_ ?_)
      | (with_reducible refine LeO.bind ?_ (fun _ => ?_))
      | exact ih0 _ _ _ _ _
      | exact ih1 _ _ _ _ _ _
      | exact ih2 _ _ _ _ _ _ _
      | exact ih3 _ _ _ _ _ _ _ _
      | exact fcs_Seal.mono _ _ _
      | exact umpirelaw04_awake.mono _
      | exact LeO.none _
      | refine LeO.ite ?_ ?_
      | refine LeO.bind ?_ (fun _ => ?_)
theorem umpirelaw04_FcsGood.mono : ∀ a0 a1 a2 a3 k, LeO (umpirelaw04_FcsGood.f k a0 a1 a2 a3) (umpirelaw04_FcsGood.f (k + 1) a0 a1 a2 a3) := by
  intro a0 a1 a2 a3 k
  obtain ⟨ih0, ih1, ih2, ih3⟩ := umpirelaw04_FcsGood.mono_l k
  unfold umpirelaw04_FcsGood.f
  repeat' first
      | (with_reducible exact ih0 _ _ _ _ _)
      | (with_reducible exact ih1 _ _ _ _ _ _)
      | (with_reducible exact ih2 _ _ _ _ _ _ _)
      | (with_reducible exact ih3 _ _ _ _ _ _ _ _)
      | (with_reducible exact fcs_Seal.mono _ _ _)
      | (with_reducible exact umpirelaw04_awake.mono _)
      | (with_reducible exact LeO.refl _)
      | (with_reducible exact LeO.none _)
      | (with_reducible refine LeO.ite ?_ ?_)
      | (with_reducible refine LeO.bind ?_ (fun _ => ?_))
      | exact ih0 _ _ _ _ _
      | exact ih1 _ _ _ _ _ _
      | exact ih2 _ _ _ _ _ _ _
      | exact ih3 _ _ _ _ _ _ _ _
      | exact fcs_Seal.mono _ _ _
      | exact umpirelaw04_awake.mono _
      | exact LeO.none _
      | refine LeO.ite ?_ ?_
      | refine LeO.bind ?_ (fun _ => ?_)
set_option maxHeartbeats 8000000 in
set_option maxRecDepth 100000 in
theorem umpirelaw04_FcsGood.calls (k : Nat) (A0 : Option Addr) (c0 : Nat) (l0 : List Int) (a1 : Bool) (a2 : Int) (a3 : Int) (r : Bool) (w : World) (hr0 : Kd.C (Kd.int .u8) w A0 l0.length l0) (hc0 : l0.length ≤ c0) (h : umpirelaw04_FcsGood.f k l0 a1 a2 a3 = some r) :
    Calls Try.prog 5 #[.slice A0 l0.length c0, .bool a1, .int .u16 a2, .int .u32 a3] w fun e w' => e = .returned (.bool r) ∧ Below w.heap.size w w' := by
  have HR0 := Aside0.mk hr0
  have HC0 := Aside0.mk hc0
  clear hr0 hc0
  have HB := Aside0.mk (Below.refl w.heap.size w)
  have H : ((umpirelaw04_awake.f k).bind fun t188 => (if t188 = true then (umpirelaw04_FcsGood.j0 k l0 a1 a2 a3 (decide ((l0.length : Int) > 2000))) else (umpirelaw04_FcsGood.j0 k l0 a1 a2 a3 true))) = some r := h
  clear h
  have HC5 := Aside0.mk H
  clear H
  go_enter Try.func5, Try.ntmps5
  go_upto_region 1 with (fail)
  go_cut [22] (fun v22 wc => ∃ (kq : Nat) (x22_4 : Bool), v22 = .bool x22_4 ∧ Aside0 (umpirelaw04_FcsGood.j0 kq l0 a1 a2 a3 x22_4 = some r) ∧ Aside0 (kq ≤ k) ∧ Aside0 (Below w.heap.size w wc))
  case first =>
    have H := HC5.out
    clear HC5
    replace H := Option.bind_eq_some_iff.mp H
    obtain ⟨t188, A60, H⟩ := H
    replace H : (if t188 = true then (umpirelaw04_FcsGood.j0 k l0 a1 a2 a3 (decide ((l0.length : Int) > 2000))) else (umpirelaw04_FcsGood.j0 k l0 a1 a2 a3 true)) = some r := H
    have A6 := Aside0.mk A60
    clear A60
    by_cases c7 : t188 = true
    · subst c7
      have H1 : (umpirelaw04_FcsGood.j0 k l0 a1 a2 a3 (decide ((l0.length : Int) > 2000))) = some r := by rw [if_pos rfl] at H; exact H
      clear H
      have H := H1
      clear H1
      have H' := Aside0.mk H
      clear H
      go_wp2_with (first | ((with_reducible refine gate_callee (f := 9) rfl ?_); refine goesL_ (some 16) rfl rfl Try.func9 (by kernel_rfl) rfl #[] rfl (by (try simp only [List.map_toArray, List.map_cons, List.map_nil]); first | done | rfl | (simp only [List.length_drop, List.length_take]; rfl)) ?_; (with_reducible refine (umpirelaw04_awake.calls k  true _ A6.out).mono ?_); rintro e w8 ⟨rfl, hb⟩; refine ⟨_, rfl, ?_⟩; have n0_ := Aside0.mk (below_step (by repeat (first | (with_reducible first | exact HB.out | apply below_alloc | apply pw_below_drewN | apply below_drew1) | exact HB.out)) hb); clear HB; have HB := n0_; clear n0_; (try clear hb); (try clear hb2); (try clear hk); (try clear hi)))
      go_meet
      case rel => exact ⟨_, (decide ((l0.length : Int) > 2000)), (by first | rfl | (simp; done) | (simp [*]; done)), H', ⟨by first | omega | exact Nat.le_refl _⟩, ⟨by repeat (first | (with_reducible first | exact HB.out | apply below_alloc | apply pw_below_drewN | apply below_drew1) | exact HB.out)⟩⟩
    · replace c7 := Bool.eq_false_iff.mpr c7
      subst c7
      have H1 : (umpirelaw04_FcsGood.j0 k l0 a1 a2 a3 true) = some r := by rw [if_neg (show ¬ (false = true) by decide)] at H; exact H
      clear H
      have H := H1
      clear H1
      have H' := Aside0.mk H
      clear H
      go_wp2_with (first | ((with_reducible refine gate_callee (f := 9) rfl ?_); refine goesL_ (some 16) rfl rfl Try.func9 (by kernel_rfl) rfl #[] rfl (by (try simp only [List.map_toArray, List.map_cons, List.map_nil]); first | done | rfl | (simp only [List.length_drop, List.length_take]; rfl)) ?_; (with_reducible refine (umpirelaw04_awake.calls k  false _ A6.out).mono ?_); rintro e w9 ⟨rfl, hb⟩; refine ⟨_, rfl, ?_⟩; have n0_ := Aside0.mk (below_step (by repeat (first | (with_reducible first | exact HB.out | apply below_alloc | apply pw_below_drewN | apply below_drew1) | exact HB.out)) hb); clear HB; have HB := n0_; clear n0_; (try clear hb); (try clear hb2); (try clear hk); (try clear hi)))
      go_meet
      case rel => exact ⟨_, (true), (by first | rfl | (simp; done) | (simp [*]; done)), H', ⟨by first | omega | exact Nat.le_refl _⟩, ⟨by repeat (first | (with_reducible first | exact HB.out | apply below_alloc | apply pw_below_drewN | apply below_drew1) | exact HB.out)⟩⟩
  case rest =>
    clear HC5
    try clear p2
    try clear c5
    try clear c7
    try clear c9
    obtain ⟨kq, x22_4, rfl, HA, HJ4, HB⟩ := hcut
    cases kq with
    | zero => exact absurd HA.out (by simp [umpirelaw04_FcsGood.j0])
    | succ kj4 =>
      have H := HA.out
      clear HA
      simp only [umpirelaw04_FcsGood.j0] at H
      by_cases c10 : x22_4 = true
      · subst c10
        have H1 : ((umpirelaw04_awake.f kj4).bind fun t189 => (some t189)) = some r := by rw [if_pos rfl] at H; exact H
        clear H
        have H := H1
        clear H1
        replace H := Option.bind_eq_some_iff.mp H
        obtain ⟨t189, A110, H⟩ := H
        replace H : (some t189) = some r := H
        have A11 := Aside0.mk A110
        clear A110
        obtain rfl := Option.some.inj H
        go_wp2_with (first | ((with_reducible refine gate_callee (f := 9) rfl ?_); refine goesL_ (some 23) rfl rfl Try.func9 (by kernel_rfl) rfl #[] rfl (by (try simp only [List.map_toArray, List.map_cons, List.map_nil]); first | done | rfl | (simp only [List.length_drop, List.length_take]; rfl)) ?_; (with_reducible refine (umpirelaw04_awake.calls kj4  t189 _ A11.out).mono ?_); rintro e w12 ⟨rfl, hb⟩; refine ⟨_, rfl, ?_⟩; have n0_ := Aside0.mk (below_step (by repeat (first | (with_reducible first | exact HB.out | apply below_alloc | apply pw_below_drewN | apply below_drew1) | exact HB.out)) hb); clear HB; have HB := n0_; clear n0_; (try clear hb); (try clear hb2); (try clear hk); (try clear hi)))
        go_ret
        exact ⟨by first | rfl | (simp [errW_none, errW_some] <;> rfl) | (simp [*, errW_none, errW_some] <;> rfl), by repeat (first | (with_reducible first | exact HB.out | apply below_alloc | apply pw_below_drewN | apply below_drew1) | exact HB.out)⟩
      · replace c10 := Bool.eq_false_iff.mpr c10
        subst c10
        have H1 : ((fcs_Seal.f kj4 l0 a1).bind fun t190 => ((fcs_Open.f t190 a1).bind fun bt193 => ((fcs_Size.f a1).bind fun t197 => (if bt193.2 = true then (if (strOfNums bt193.1).toList = (strOfNums l0).toList then ((fcs_Good.f t190 a1).bind fun t198 => (if t198 = true then ((fcs_Size.f a1).bind fun t199 => (umpirelaw04_FcsGood.j1 kj4 a1 a2 a3 t190 (wrap64 (8 * t197)) ((t190.length : Int) != (wrap64 ((l0.length : Int) + t199))))) else (umpirelaw04_FcsGood.j1 kj4 a1 a2 a3 t190 (wrap64 (8 * t197)) true))) else (umpirelaw04_FcsGood.j1 kj4 a1 a2 a3 t190 (wrap64 (8 * t197)) true)) else (umpirelaw04_FcsGood.j1 kj4 a1 a2 a3 t190 (wrap64 (8 * t197)) true))))) = some r := by rw [if_neg (show ¬ (false = true) by decide)] at H; exact H
        clear H
        have H := H1
        clear H1
        replace H := Option.bind_eq_some_iff.mp H
        obtain ⟨t190, A130, H⟩ := H
        replace H : ((fcs_Open.f t190 a1).bind fun bt193 => ((fcs_Size.f a1).bind fun t197 => (if bt193.2 = true then (if (strOfNums bt193.1).toList = (strOfNums l0).toList then ((fcs_Good.f t190 a1).bind fun t198 => (if t198 = true then ((fcs_Size.f a1).bind fun t199 => (umpirelaw04_FcsGood.j1 kj4 a1 a2 a3 t190 (wrap64 (8 * t197)) ((t190.length : Int) != (wrap64 ((l0.length : Int) + t199))))) else (umpirelaw04_FcsGood.j1 kj4 a1 a2 a3 t190 (wrap64 (8 * t197)) true))) else (umpirelaw04_FcsGood.j1 kj4 a1 a2 a3 t190 (wrap64 (8 * t197)) true)) else (umpirelaw04_FcsGood.j1 kj4 a1 a2 a3 t190 (wrap64 (8 * t197)) true)))) = some r := H
        have A13 := Aside0.mk A130
        clear A130
        replace H := Option.bind_eq_some_iff.mp H
        obtain ⟨⟨t193, t194⟩, A140, H⟩ := H
        replace H : ((fcs_Size.f a1).bind fun t197 => (if t194 = true then (if (strOfNums t193).toList = (strOfNums l0).toList then ((fcs_Good.f t190 a1).bind fun t198 => (if t198 = true then ((fcs_Size.f a1).bind fun t199 => (umpirelaw04_FcsGood.j1 kj4 a1 a2 a3 t190 (wrap64 (8 * t197)) ((t190.length : Int) != (wrap64 ((l0.length : Int) + t199))))) else (umpirelaw04_FcsGood.j1 kj4 a1 a2 a3 t190 (wrap64 (8 * t197)) true))) else (umpirelaw04_FcsGood.j1 kj4 a1 a2 a3 t190 (wrap64 (8 * t197)) true)) else (umpirelaw04_FcsGood.j1 kj4 a1 a2 a3 t190 (wrap64 (8 * t197)) true))) = some r := H
        have A14 := Aside0.mk A140
        clear A140
        replace H := Option.bind_eq_some_iff.mp H
        obtain ⟨t197, A150, H⟩ := H
        replace H : (if t194 = true then (if (strOfNums t193).toList = (strOfNums l0).toList then ((fcs_Good.f t190 a1).bind fun t198 => (if t198 = true then ((fcs_Size.f a1).bind fun t199 => (umpirelaw04_FcsGood.j1 kj4 a1 a2 a3 t190 (wrap64 (8 * t197)) ((t190.length : Int) != (wrap64 ((l0.length : Int) + t199))))) else (umpirelaw04_FcsGood.j1 kj4 a1 a2 a3 t190 (wrap64 (8 * t197)) true))) else (umpirelaw04_FcsGood.j1 kj4 a1 a2 a3 t190 (wrap64 (8 * t197)) true)) else (umpirelaw04_FcsGood.j1 kj4 a1 a2 a3 t190 (wrap64 (8 * t197)) true)) = some r := H
        have A15 := Aside0.mk A150
        clear A150
        have HC16 := Aside0.mk H
        clear H
        go_upto_region 6 with (first | ((with_reducible refine gate_callee (f := 19) rfl ?_); refine goesL_ (some 26) rfl rfl Try.func19 (by kernel_rfl) rfl #[.slice A0 l0.length c0, .bool a1] rfl (by (try simp only [List.map_toArray, List.map_cons, List.map_nil]); first | done | rfl | (simp only [List.length_drop, List.length_take]; rfl)) ?_; (with_reducible refine (fcs_Seal.calls kj4 _ _ l0 a1 t190 _ ?side1 ?side2 A13.out).mono ?_); (case side1 => repeat (first | exact (Kd.C_below HR0.out HB.out) | (with_reducible refine Kd.C_alloc ?_ _) | (with_reducible refine Kd.C_drewN ?_ _) | (with_reducible refine Kd.C_drew ?_))); (case side2 => exact HC0.out); rintro e w17 ⟨v191, rfl, ho0, hb⟩; refine ⟨_, rfl, ?_⟩; have n0_ := Aside0.mk (Kd.R_lower ho0 (below_size (by repeat (first | (with_reducible first | exact HB.out | apply below_alloc | apply pw_below_drewN | apply below_drew1) | exact HB.out)))); have n1_ := Aside0.mk (below_step (by repeat (first | (with_reducible first | exact HB.out | apply below_alloc | apply pw_below_drewN | apply below_drew1) | exact HB.out)) hb); clear HB; have HO192 := n0_; have HB := n1_; clear n0_ n1_; (try clear hb); (try clear hb2); (try clear hk); (try clear hi); (try clear ho0); obtain ⟨Ao18, co18, eo18⟩ := Kd.R_slice HO192.out; subst eo18) | ((with_reducible refine gate_callee (f := 16) rfl ?_); refine goesL_ (some 30) rfl rfl Try.func16 (by kernel_rfl) rfl #[.slice Ao18 t190.length co18, .bool a1] rfl (by (try simp only [List.map_toArray, List.map_cons, List.map_nil]); first | done | rfl | (simp only [List.length_drop, List.length_take]; rfl)) ?_; (with_reducible refine (fcs_Open.calls _ _ t190 a1 t193 t194 _ ?side1 ?side2 A14.out).mono ?_); (case side1 => repeat (first | exact (Kd.R_reads' HO192.out).2.2 | (with_reducible refine Kd.C_alloc ?_ _) | (with_reducible refine Kd.C_drewN ?_ _) | (with_reducible refine Kd.C_drew ?_))); (case side2 => exact (Kd.R_reads' HO192.out).2.1); rintro e w19 ⟨v195, rfl, ho0, hb⟩; refine ⟨_, rfl, ?_⟩; have n0_ := Aside0.mk (Kd.R_elder' (by (with_reducible repeat (first | apply Kd.R_alloc | apply Kd.R_drewN | apply Kd.R_drew)); exact HO192.out) (Kd.R_base ho0) hb); have n1_ := Aside0.mk (Kd.R_lower (Kd.R_new' ho0 (Kd.R_lt (by (with_reducible repeat (first | apply Kd.R_alloc | apply Kd.R_drewN | apply Kd.R_drew)); exact HO192.out))) (below_size (by repeat (first | (with_reducible first | exact HB.out | apply below_alloc | apply pw_below_drewN | apply below_drew1) | exact HB.out)))); have n2_ := Aside0.mk (below_step (by repeat (first | (with_reducible first | exact HB.out | apply below_alloc | apply pw_below_drewN | apply below_drew1) | exact HB.out)) hb); clear HO192; clear HB; have HO192 := n0_; have HO196 := n1_; have HB := n2_; clear n0_ n1_ n2_; (try clear hb); (try clear hb2); (try clear hk); (try clear hi); (try clear ho0)) | ((with_reducible refine gate_callee (f := 14) rfl ?_); refine goesL_ (some 34) rfl rfl Try.func14 (by kernel_rfl) rfl #[.bool a1] rfl (by (try simp only [List.map_toArray, List.map_cons, List.map_nil]); first | done | rfl | (simp only [List.length_drop, List.length_take]; rfl)) ?_; (with_reducible refine (fcs_Size.calls a1 t197 _ A15.out).mono ?_); rintro e w' ⟨rfl, ⟨nd, rfl⟩⟩; refine ⟨_, rfl, ?_⟩))
        (try simp only [Act.put, List.setIfInBounds_toArray, List.set_cons_zero, List.set_cons_succ])
        go_cut [60] (fun v60 wc => ∃ (kq : Nat) (x60_15 : Bool), v60 = .bool x60_15 ∧ Aside0 (umpirelaw04_FcsGood.j1 kq a1 a2 a3 t190 (wrap64 (8 * t197)) x60_15 = some r) ∧ Aside0 (kq ≤ kj4) ∧ Aside0 (Kd.R (Kd.int .u8) 5 wc w.heap.size (fun _ => True) (.slice Ao18 t190.length co18) t190) ∧ Aside0 (Below w.heap.size w wc))
        case first =>
          have H := HC16.out
          clear HC16
          by_cases c20 : t194 = true
          · subst c20
            have H1 : (if (strOfNums t193).toList = (strOfNums l0).toList then ((fcs_Good.f t190 a1).bind fun t198 => (if t198 = true then ((fcs_Size.f a1).bind fun t199 => (umpirelaw04_FcsGood.j1 kj4 a1 a2 a3 t190 (wrap64 (8 * t197)) ((t190.length : Int) != (wrap64 ((l0.length : Int) + t199))))) else (umpirelaw04_FcsGood.j1 kj4 a1 a2 a3 t190 (wrap64 (8 * t197)) true))) else (umpirelaw04_FcsGood.j1 kj4 a1 a2 a3 t190 (wrap64 (8 * t197)) true)) = some r := by rw [if_pos rfl] at H; exact H
            clear H
            have H := H1
            clear H1
            by_cases c21 : (strOfNums t193).toList = (strOfNums l0).toList
            · rw [if_pos c21] at H
              have c21b0 : ((strOfNums t193).toList == (strOfNums l0).toList) = true := beq_iff_eq.mpr c21
              have c21b1 : ((strOfNums t193).toList != (strOfNums l0).toList) = false := bne_eq_false_iff_eq.mpr c21
              clear c21
              (first | rw [c21b0] | (simp only [i64_w, i32_w]; rw [c21b0]) | skip)
              replace H := Option.bind_eq_some_iff.mp H
              obtain ⟨t198, A220, H⟩ := H
              replace H : (if t198 = true then ((fcs_Size.f a1).bind fun t199 => (umpirelaw04_FcsGood.j1 kj4 a1 a2 a3 t190 (wrap64 (8 * t197)) ((t190.length : Int) != (wrap64 ((l0.length : Int) + t199))))) else (umpirelaw04_FcsGood.j1 kj4 a1 a2 a3 t190 (wrap64 (8 * t197)) true)) = some r := H
              have A22 := Aside0.mk A220
              clear A220
              by_cases c23 : t198 = true
              · subst c23
                have H1 : ((fcs_Size.f a1).bind fun t199 => (umpirelaw04_FcsGood.j1 kj4 a1 a2 a3 t190 (wrap64 (8 * t197)) ((t190.length : Int) != (wrap64 ((l0.length : Int) + t199))))) = some r := by rw [if_pos rfl] at H; exact H
                clear H
                have H := H1
                clear H1
                replace H := Option.bind_eq_some_iff.mp H
                obtain ⟨t199, A240, H⟩ := H
                replace H : (umpirelaw04_FcsGood.j1 kj4 a1 a2 a3 t190 (wrap64 (8 * t197)) ((t190.length : Int) != (wrap64 ((l0.length : Int) + t199)))) = some r := H
                have A24 := Aside0.mk A240
                clear A240
                have H' := Aside0.mk H
                clear H
                have hcv25 := fun m_ : Nat => own_string (P := Try.prog) Try.underlying23 Try.underlying5 Try.underlying9 (Kd.own_of_R (Kd.R_drewN HO196.out m_))
                have hcv26 := own_string (P := Try.prog) Try.underlying23 Try.underlying5 Try.underlying9 (Kd.own_of_R HO196.out)
                have hcv27 := fun m_ : Nat => Kd.C_string (P := Try.prog) (A := A0) (c := c0) Try.underlying23 Try.underlying5 Try.underlying9 (Kd.C_drewN (Kd.C_below HR0.out HB.out) m_)
                have hcv29 := Kd.C_string (P := Try.prog) (A := A0) (c := c0) Try.underlying23 Try.underlying5 Try.underlying9 (Kd.C_below HR0.out HB.out)
                go_wp2_with (first | (go_at_call 18; (with_reducible refine (fcs_Good.calls _ _ t190 a1 true _ ?side1 ?side2 A22.out).mono ?_); (case side1 => repeat (first | exact (Kd.R_reads' HO192.out).2.2 | (with_reducible refine Kd.C_alloc ?_ _) | (with_reducible refine Kd.C_drewN ?_ _) | (with_reducible refine Kd.C_drew ?_))); (case side2 => exact (Kd.R_reads' HO192.out).2.1); rintro e w30 ⟨rfl, hb⟩; have n0_ := Aside0.mk (Kd.R_below (by (with_reducible repeat (first | apply Kd.R_alloc | apply Kd.R_drewN | apply Kd.R_drew)); exact HO192.out) hb); have n1_ := Aside0.mk (Kd.R_below (by (with_reducible repeat (first | apply Kd.R_alloc | apply Kd.R_drewN | apply Kd.R_drew)); exact HO196.out) hb); have n2_ := Aside0.mk (below_step (by repeat (first | (with_reducible first | exact HB.out | apply below_alloc | apply pw_below_drewN | apply below_drew1) | exact HB.out)) hb); clear HO192; clear HO196; clear HB; have HO192 := n0_; have HO196 := n1_; have HB := n2_; clear n0_ n1_ n2_; (try clear hb); (try clear hb2); (try clear hk); (try clear hi)) | (go_at_call 14; (with_reducible refine (fcs_Size.calls a1 t199 _ A24.out).mono ?_); rintro e w' ⟨rfl, ⟨nd, rfl⟩⟩))
                go_meet
                case rel => exact ⟨_, (((t190.length : Int) != (wrap64 ((l0.length : Int) + t199)))), (by first | rfl | (simp; done) | (simp [*]; done)), H', ⟨by have := HJ4.out; first | omega | exact Nat.le_refl _⟩, ⟨by (with_reducible repeat (first | apply Kd.R_alloc | apply Kd.R_drewN | apply Kd.R_drew)); exact Kd.R_mono HO192.out (fun _ hk => trivial)⟩, ⟨by repeat (first | (with_reducible first | exact HB.out | apply below_alloc | apply pw_below_drewN | apply below_drew1) | exact HB.out)⟩⟩
              · replace c23 := Bool.eq_false_iff.mpr c23
                subst c23
                have H1 : (umpirelaw04_FcsGood.j1 kj4 a1 a2 a3 t190 (wrap64 (8 * t197)) true) = some r := by rw [if_neg (show ¬ (false = true) by decide)] at H; exact H
                clear H
                have H := H1
                clear H1
                have H' := Aside0.mk H
                clear H
                have hcv31 := fun m_ : Nat => own_string (P := Try.prog) Try.underlying23 Try.underlying5 Try.underlying9 (Kd.own_of_R (Kd.R_drewN HO196.out m_))
                have hcv32 := own_string (P := Try.prog) Try.underlying23 Try.underlying5 Try.underlying9 (Kd.own_of_R HO196.out)
                have hcv33 := fun m_ : Nat => Kd.C_string (P := Try.prog) (A := A0) (c := c0) Try.underlying23 Try.underlying5 Try.underlying9 (Kd.C_drewN (Kd.C_below HR0.out HB.out) m_)
                have hcv35 := Kd.C_string (P := Try.prog) (A := A0) (c := c0) Try.underlying23 Try.underlying5 Try.underlying9 (Kd.C_below HR0.out HB.out)
                go_wp2_with (first | (go_at_call 18; (with_reducible refine (fcs_Good.calls _ _ t190 a1 false _ ?side1 ?side2 A22.out).mono ?_); (case side1 => repeat (first | exact (Kd.R_reads' HO192.out).2.2 | (with_reducible refine Kd.C_alloc ?_ _) | (with_reducible refine Kd.C_drewN ?_ _) | (with_reducible refine Kd.C_drew ?_))); (case side2 => exact (Kd.R_reads' HO192.out).2.1); rintro e w36 ⟨rfl, hb⟩; have n0_ := Aside0.mk (Kd.R_below (by (with_reducible repeat (first | apply Kd.R_alloc | apply Kd.R_drewN | apply Kd.R_drew)); exact HO192.out) hb); have n1_ := Aside0.mk (Kd.R_below (by (with_reducible repeat (first | apply Kd.R_alloc | apply Kd.R_drewN | apply Kd.R_drew)); exact HO196.out) hb); have n2_ := Aside0.mk (below_step (by repeat (first | (with_reducible first | exact HB.out | apply below_alloc | apply pw_below_drewN | apply below_drew1) | exact HB.out)) hb); clear HO192; clear HO196; clear HB; have HO192 := n0_; have HO196 := n1_; have HB := n2_; clear n0_ n1_ n2_; (try clear hb); (try clear hb2); (try clear hk); (try clear hi)))
                go_meet
                case rel => exact ⟨_, (true), (by first | rfl | (simp; done) | (simp [*]; done)), H', ⟨by have := HJ4.out; first | omega | exact Nat.le_refl _⟩, ⟨by (with_reducible repeat (first | apply Kd.R_alloc | apply Kd.R_drewN | apply Kd.R_drew)); exact Kd.R_mono HO192.out (fun _ hk => trivial)⟩, ⟨by repeat (first | (with_reducible first | exact HB.out | apply below_alloc | apply pw_below_drewN | apply below_drew1) | exact HB.out)⟩⟩
            · rw [if_neg c21] at H
              have c21b0 : ((strOfNums t193).toList == (strOfNums l0).toList) = false := beq_eq_false_iff_ne.mpr c21
              have c21b1 : ((strOfNums t193).toList != (strOfNums l0).toList) = true := bne_iff_ne.mpr c21
              (first | rw [c21b0] | (simp only [i64_w, i32_w]; rw [c21b0]) | skip)
              have H' := Aside0.mk H
              clear H
              have hcv37 := fun m_ : Nat => own_string (P := Try.prog) Try.underlying23 Try.underlying5 Try.underlying9 (Kd.own_of_R (Kd.R_drewN HO196.out m_))
              have hcv38 := own_string (P := Try.prog) Try.underlying23 Try.underlying5 Try.underlying9 (Kd.own_of_R HO196.out)
              have hcv39 := fun m_ : Nat => Kd.C_string (P := Try.prog) (A := A0) (c := c0) Try.underlying23 Try.underlying5 Try.underlying9 (Kd.C_drewN (Kd.C_below HR0.out HB.out) m_)
              have hcv41 := Kd.C_string (P := Try.prog) (A := A0) (c := c0) Try.underlying23 Try.underlying5 Try.underlying9 (Kd.C_below HR0.out HB.out)
              go_wp2
              go_meet
              case rel => exact ⟨_, (true), (by first | rfl | (simp; done) | (simp [*]; done)), H', ⟨by have := HJ4.out; first | omega | exact Nat.le_refl _⟩, ⟨by (with_reducible repeat (first | apply Kd.R_alloc | apply Kd.R_drewN | apply Kd.R_drew)); exact Kd.R_mono HO192.out (fun _ hk => trivial)⟩, ⟨by repeat (first | (with_reducible first | exact HB.out | apply below_alloc | apply pw_below_drewN | apply below_drew1) | exact HB.out)⟩⟩
          · replace c20 := Bool.eq_false_iff.mpr c20
            subst c20
            have H1 : (umpirelaw04_FcsGood.j1 kj4 a1 a2 a3 t190 (wrap64 (8 * t197)) true) = some r := by rw [if_neg (show ¬ (false = true) by decide)] at H; exact H
            clear H
            have H := H1
            clear H1
            have H' := Aside0.mk H
            clear H
            go_wp2
            go_meet
            case rel => exact ⟨_, (true), (by first | rfl | (simp; done) | (simp [*]; done)), H', ⟨by have := HJ4.out; first | omega | exact Nat.le_refl _⟩, ⟨by (with_reducible repeat (first | apply Kd.R_alloc | apply Kd.R_drewN | apply Kd.R_drew)); exact Kd.R_mono HO192.out (fun _ hk => trivial)⟩, ⟨by repeat (first | (with_reducible first | exact HB.out | apply below_alloc | apply pw_below_drewN | apply below_drew1) | exact HB.out)⟩⟩
        case rest =>
          clear HC16
          try clear c1
          try clear c2
          try clear p2
          try clear hcv2
          try clear hcv3
          try clear hcv4
          try clear c5
          try clear p6
          try clear c7
          try clear c9
          try clear c10
          try clear c14
          try clear c16
          try clear c19
          try clear c20
          try clear c21
          try clear c21b0
          try clear c21b1
          try clear c23
          try clear hcv25
          try clear hcv26
          try clear hcv27
          try clear hcv29
          try clear hcv31
          try clear hcv32
          try clear hcv33
          try clear hcv35
          try clear hcv37
          try clear hcv38
          try clear hcv39
          try clear hcv41
          try clear p2
          obtain ⟨kq, x60_15, rfl, HA, HJ15, HO_9, HB⟩ := hcut
          cases kq with
          | zero => exact absurd HA.out (by simp [umpirelaw04_FcsGood.j1])
          | succ kj15 =>
            have H := HA.out
            clear HA
            simp only [umpirelaw04_FcsGood.j1] at H
            by_cases c42 : x60_15 = true
            · subst c42
              have H1 : (none) = some r := by rw [if_pos rfl] at H; exact H
              clear H
              have H := H1
              clear H1
              exact absurd H (by simp)
            · replace c42 := Bool.eq_false_iff.mpr c42
              subst c42
              have H1 : (if (wrap64 (8 * (t190.length : Int))) = 0 then (none) else (umpirelaw04_FcsGood.l0 kj15 a1 a3 t190 (wrap64 (8 * t197)) (Int.tmod (wrap64 (a2)) (wrap64 (8 * (t190.length : Int)))) false 0)) = some r := by rw [if_neg (show ¬ (false = true) by decide)] at H; exact H
              clear H
              have H := H1
              clear H1
              by_cases c43 : (wrap64 (8 * (t190.length : Int))) = 0
              · rw [if_pos c43] at H
                exact absurd H (by simp)
              · rw [if_neg c43] at H
                have c43b0 : ((wrap64 (8 * (t190.length : Int))) == 0) = false := beq_eq_false_iff_ne.mpr c43
                have c43b1 : ((wrap64 (8 * (t190.length : Int))) != 0) = true := bne_iff_ne.mpr c43
                have H' := Aside0.mk H
                clear H
                go_wp2
                go_loopg [14, 15] kj15 (fun kq v14 v15 w' => ∃ (x9_3 : List Int) (x14_3 : Bool) (x15_3 : Int), v14 = .bool x14_3 ∧ v15 = .int .i64 x15_3 ∧ Aside0 (umpirelaw04_FcsGood.l0 kq a1 a3 x9_3 (wrap64 (8 * t197)) (Int.tmod (wrap64 (a2)) (wrap64 (8 * (t190.length : Int)))) x14_3 x15_3 = some r) ∧ Aside0 (kq ≤ kj15) ∧ Aside0 (Kd.R (Kd.int .u8) 5 w' w.heap.size (fun _ => True) (.slice Ao18 t190.length co18) x9_3) ∧ Aside0 (Below w.heap.size w w'))
                case atStart => exact ⟨(t190), (false), (0), (by first | rfl | (simp; done) | (simp [*]; done)), (by first | rfl | (simp; done) | (simp [*]; done)), H', ⟨Nat.le_refl _⟩, ⟨by (with_reducible repeat (first | apply Kd.R_alloc | apply Kd.R_drewN | apply Kd.R_drew)); exact HO_9.out⟩, ⟨by repeat (first | (with_reducible first | exact HB.out | apply below_alloc | apply pw_below_drewN | apply below_drew1) | exact HB.out)⟩⟩
                case round =>
                  clear H'
                  try clear c1
                  try clear c2
                  try clear p2
                  try clear hcv2
                  try clear hcv3
                  try clear c4
                  try clear hcv4
                  try clear c5
                  try clear p6
                  try clear c7
                  try clear c9
                  try clear c10
                  try clear c14
                  try clear c16
                  try clear c19
                  try clear c20
                  try clear c21
                  try clear c21b0
                  try clear c21b1
                  try clear c23
                  try clear hcv25
                  try clear hcv26
                  try clear hcv27
                  try clear hcv29
                  try clear hcv31
                  try clear hcv32
                  try clear hcv33
                  try clear hcv35
                  try clear hcv37
                  try clear hcv38
                  try clear hcv39
                  try clear hcv41
                  try clear c42
                  try clear c43
                  try clear c43b0
                  try clear c43b1
                  try clear p2
                  try clear p6
                  obtain ⟨x9_3, x14_3, x15_3, rfl, rfl, HA, HK3, HO_9, HB⟩ := hrel
                  have hl9_3 := (Kd.R_reads' HO_9.out).1
                  rw [hl9_3] at HO_9
                  (try simp only [hl9_3])
                  cases gk with
                  | zero => exact absurd HA.out (by simp [umpirelaw04_FcsGood.l0])
                  | succ k3 =>
                    have H := HA.out
                    clear HA
                    simp only [umpirelaw04_FcsGood.l0] at H
                    have HC44 := Aside0.mk H
                    clear H
                    go_upto_region 11 with (fail)
                    go_cut [78] (fun v78 wc => ∃ (kq : Nat) (x78_43 : Bool), v78 = .bool x78_43 ∧ Aside0 (umpirelaw04_FcsGood.j3 kq a1 a3 x9_3 (wrap64 (8 * t197)) (Int.tmod (wrap64 (a2)) (wrap64 (8 * (t190.length : Int)))) x14_3 x15_3 x78_43 = some r) ∧ Aside0 (kq ≤ k3) ∧ Aside0 (Kd.R (Kd.int .u8) 5 wc w.heap.size (fun _ => True) (.slice Ao18 x9_3.length co18) x9_3) ∧ Aside0 (Below w.heap.size w wc))
                    case first =>
                      have H := HC44.out
                      clear HC44
                      by_cases c45 : x15_3 < (wrap64 (8 * t197))
                      · rw [if_pos c45] at H
                        have c45b0 : decide (x15_3 < (wrap64 (8 * t197))) = true := decide_eq_true c45
                        clear c45
                        (first | rw [c45b0] | (simp only [i64_w, i32_w]; rw [c45b0]) | skip)
                        have H' := Aside0.mk H
                        clear H
                        go_wp2
                        go_meet
                        case rel => exact ⟨_, (decide ((wrap64 ((Int.tmod (wrap64 (a2)) (wrap64 (8 * (t190.length : Int)))) + x15_3)) < (wrap64 (8 * (x9_3.length : Int))))), (by first | rfl | (simp; done) | (simp [*]; done)), H', ⟨by have := HJ4.out; have := HJ15.out; have := HK3.out; first | omega | exact Nat.le_refl _⟩, ⟨by (try simp only [hl9_3]); (with_reducible repeat (first | apply Kd.R_alloc | apply Kd.R_drewN | apply Kd.R_drew)); exact HO_9.out⟩, ⟨by repeat (first | (with_reducible first | exact HB.out | apply below_alloc | apply pw_below_drewN | apply below_drew1) | exact HB.out)⟩⟩
                      · rw [if_neg c45] at H
                        have c45b0 : decide (x15_3 < (wrap64 (8 * t197))) = false := decide_eq_false c45
                        clear c45
                        (first | rw [c45b0] | (simp only [i64_w, i32_w]; rw [c45b0]) | skip)
                        have H' := Aside0.mk H
                        clear H
                        go_wp2
                        go_meet
                        case rel => exact ⟨_, (false), (by first | rfl | (simp; done) | (simp [*]; done)), H', ⟨by have := HJ4.out; have := HJ15.out; have := HK3.out; first | omega | exact Nat.le_refl _⟩, ⟨by (try simp only [hl9_3]); (with_reducible repeat (first | apply Kd.R_alloc | apply Kd.R_drewN | apply Kd.R_drew)); exact HO_9.out⟩, ⟨by repeat (first | (with_reducible first | exact HB.out | apply below_alloc | apply pw_below_drewN | apply below_drew1) | exact HB.out)⟩⟩
                    case rest =>
                      clear HC44
                      try clear c1
                      try clear c2
                      try clear p2
                      try clear hcv2
                      try clear hcv3
                      try clear c4
                      try clear hcv4
                      try clear c5
                      try clear p6
                      try clear c7
                      try clear c9
                      try clear c10
                      try clear c14
                      try clear c16
                      try clear c19
                      try clear c20
                      try clear c21
                      try clear c21b0
                      try clear c21b1
                      try clear c23
                      try clear hcv25
                      try clear hcv26
                      try clear hcv27
                      try clear hcv29
                      try clear hcv31
                      try clear hcv32
                      try clear hcv33
                      try clear hcv35
                      try clear hcv37
                      try clear hcv38
                      try clear hcv39
                      try clear hcv41
                      try clear c42
                      try clear c43
                      try clear c43b0
                      try clear c43b1
                      try clear c45
                      try clear c45b0
                      try clear p2
                      try clear p6
                      obtain ⟨kq, x78_43, rfl, HA, HJ43, HO_9, HB⟩ := hcut
                      cases kq with
                      | zero => exact absurd HA.out (by simp [umpirelaw04_FcsGood.j3])
                      | succ kj43 =>
                        have H := HA.out
                        clear HA
                        simp only [umpirelaw04_FcsGood.j3] at H
                        by_cases c46 : x78_43 = true
                        · subst c46
                          have H1 : (if 0 ≤ (IntKind.u64.wrap (x15_3)) then (if (Go.bits .and .u32 (shr .u32 a3 (IntKind.u64.wrap (x15_3))) 1) = 1 then (if 0 ≤ (wrap64 (Int.tdiv (wrap64 ((Int.tmod (wrap64 (a2)) (wrap64 (8 * (t190.length : Int)))) + x15_3)) 8)) then (if (wrap64 (Int.tdiv (wrap64 ((Int.tmod (wrap64 (a2)) (wrap64 (8 * (t190.length : Int)))) + x15_3)) 8)) < (x9_3.length : Int) then (if 0 ≤ (IntKind.u64.wrap (Int.tmod (wrap64 ((Int.tmod (wrap64 (a2)) (wrap64 (8 * (t190.length : Int)))) + x15_3)) 8)) then (umpirelaw04_FcsGood.l0 kj43 a1 a3 (x9_3.set ((wrap64 (Int.tdiv (wrap64 ((Int.tmod (wrap64 (a2)) (wrap64 (8 * (t190.length : Int)))) + x15_3)) 8)) : Int).toNat (Go.bits .xor .u8 (rd x9_3 (wrap64 (Int.tdiv (wrap64 ((Int.tmod (wrap64 (a2)) (wrap64 (8 * (t190.length : Int)))) + x15_3)) 8))) (shl .u8 1 (IntKind.u64.wrap (Int.tmod (wrap64 ((Int.tmod (wrap64 (a2)) (wrap64 (8 * (t190.length : Int)))) + x15_3)) 8))))) (wrap64 (8 * t197)) (Int.tmod (wrap64 (a2)) (wrap64 (8 * (t190.length : Int)))) true (wrap64 (x15_3 + 1))) else (none)) else (none)) else (none)) else (umpirelaw04_FcsGood.l0 kj43 a1 a3 x9_3 (wrap64 (8 * t197)) (Int.tmod (wrap64 (a2)) (wrap64 (8 * (t190.length : Int)))) x14_3 (wrap64 (x15_3 + 1)))) else (none)) = some r := by rw [if_pos rfl] at H; exact H
                          clear H
                          have H := H1
                          clear H1
                          obtain ⟨ji47, hji47⟩ : ∃ j_ : Int, (IntKind.u64.wrap (x15_3)) = j_ := ⟨_, rfl⟩
                          replace H : (if 0 ≤ (ji47) then (if (Go.bits .and .u32 (shr .u32 a3 (ji47)) 1) = 1 then (if 0 ≤ (wrap64 (Int.tdiv (wrap64 ((Int.tmod (wrap64 (a2)) (wrap64 (8 * (t190.length : Int)))) + x15_3)) 8)) then (if (wrap64 (Int.tdiv (wrap64 ((Int.tmod (wrap64 (a2)) (wrap64 (8 * (t190.length : Int)))) + x15_3)) 8)) < (x9_3.length : Int) then (if 0 ≤ (IntKind.u64.wrap (Int.tmod (wrap64 ((Int.tmod (wrap64 (a2)) (wrap64 (8 * (t190.length : Int)))) + x15_3)) 8)) then (umpirelaw04_FcsGood.l0 kj43 a1 a3 (x9_3.set ((wrap64 (Int.tdiv (wrap64 ((Int.tmod (wrap64 (a2)) (wrap64 (8 * (t190.length : Int)))) + x15_3)) 8)) : Int).toNat (Go.bits .xor .u8 (rd x9_3 (wrap64 (Int.tdiv (wrap64 ((Int.tmod (wrap64 (a2)) (wrap64 (8 * (t190.length : Int)))) + x15_3)) 8))) (shl .u8 1 (IntKind.u64.wrap (Int.tmod (wrap64 ((Int.tmod (wrap64 (a2)) (wrap64 (8 * (t190.length : Int)))) + x15_3)) 8))))) (wrap64 (8 * t197)) (Int.tmod (wrap64 (a2)) (wrap64 (8 * (t190.length : Int)))) true (wrap64 (x15_3 + 1))) else (none)) else (none)) else (none)) else (umpirelaw04_FcsGood.l0 kj43 a1 a3 x9_3 (wrap64 (8 * t197)) (Int.tmod (wrap64 (a2)) (wrap64 (8 * (t190.length : Int)))) x14_3 (wrap64 (x15_3 + 1)))) else (none)) = some r := by first | (rw [hji47] at H; exact H) | (simp only [hji47] at H ⊢; exact H)
                          by_cases c48 : 0 ≤ (ji47)
                          · rw [if_pos c48] at H
                            have c48b0 := eq_true c48
                            have c48b1 : decide (0 ≤ (ji47)) = true := decide_eq_true c48
                            clear c48
                            obtain ⟨ji49, hji49⟩ : ∃ j_ : Int, (shr .u32 a3 (ji47)) = j_ := ⟨_, rfl⟩
                            replace H : (if (Go.bits .and .u32 (ji49) 1) = 1 then (if 0 ≤ (wrap64 (Int.tdiv (wrap64 ((Int.tmod (wrap64 (a2)) (wrap64 (8 * (t190.length : Int)))) + x15_3)) 8)) then (if (wrap64 (Int.tdiv (wrap64 ((Int.tmod (wrap64 (a2)) (wrap64 (8 * (t190.length : Int)))) + x15_3)) 8)) < (x9_3.length : Int) then (if 0 ≤ (IntKind.u64.wrap (Int.tmod (wrap64 ((Int.tmod (wrap64 (a2)) (wrap64 (8 * (t190.length : Int)))) + x15_3)) 8)) then (umpirelaw04_FcsGood.l0 kj43 a1 a3 (x9_3.set ((wrap64 (Int.tdiv (wrap64 ((Int.tmod (wrap64 (a2)) (wrap64 (8 * (t190.length : Int)))) + x15_3)) 8)) : Int).toNat (Go.bits .xor .u8 (rd x9_3 (wrap64 (Int.tdiv (wrap64 ((Int.tmod (wrap64 (a2)) (wrap64 (8 * (t190.length : Int)))) + x15_3)) 8))) (shl .u8 1 (IntKind.u64.wrap (Int.tmod (wrap64 ((Int.tmod (wrap64 (a2)) (wrap64 (8 * (t190.length : Int)))) + x15_3)) 8))))) (wrap64 (8 * t197)) (Int.tmod (wrap64 (a2)) (wrap64 (8 * (t190.length : Int)))) true (wrap64 (x15_3 + 1))) else (none)) else (none)) else (none)) else (umpirelaw04_FcsGood.l0 kj43 a1 a3 x9_3 (wrap64 (8 * t197)) (Int.tmod (wrap64 (a2)) (wrap64 (8 * (t190.length : Int)))) x14_3 (wrap64 (x15_3 + 1)))) = some r := by first | (rw [hji49] at H; exact H) | (simp only [hji49] at H ⊢; exact H)
                            have hji49_ : (a3 / 2 ^ min (ji47).toNat 32) = ji49 := hji49
                            have hji49z : (ji47) ≤ 32 → (a3 / 2 ^ (ji47).toNat) = ji49 := shr_small hji49
                            by_cases c50 : (Go.bits .and .u32 (ji49) 1) = 1
                            · rw [if_pos c50] at H
                              have c50b0 : ((Go.bits .and .u32 (ji49) 1) == 1) = true := beq_iff_eq.mpr c50
                              have c50b1 : ((Go.bits .and .u32 (ji49) 1) != 1) = false := bne_eq_false_iff_eq.mpr c50
                              clear c50
                              obtain ⟨ji51, hji51⟩ : ∃ j_ : Int, (wrap64 (Int.tdiv (wrap64 ((Int.tmod (wrap64 (a2)) (wrap64 (8 * (t190.length : Int)))) + x15_3)) 8)) = j_ := ⟨_, rfl⟩
                              (try (have hji51l_ := hji51; simp only [hl9_3] at hji51l_))
                              replace H : (if 0 ≤ (ji51) then (if (ji51) < (x9_3.length : Int) then (if 0 ≤ (IntKind.u64.wrap (Int.tmod (wrap64 ((Int.tmod (wrap64 (a2)) (wrap64 (8 * (t190.length : Int)))) + x15_3)) 8)) then (umpirelaw04_FcsGood.l0 kj43 a1 a3 (x9_3.set ((ji51) : Int).toNat (Go.bits .xor .u8 (rd x9_3 (ji51)) (shl .u8 1 (IntKind.u64.wrap (Int.tmod (wrap64 ((Int.tmod (wrap64 (a2)) (wrap64 (8 * (t190.length : Int)))) + x15_3)) 8))))) (wrap64 (8 * t197)) (Int.tmod (wrap64 (a2)) (wrap64 (8 * (t190.length : Int)))) true (wrap64 (x15_3 + 1))) else (none)) else (none)) else (none)) = some r := by first | (rw [hji51] at H; exact H) | (simp only [hji51] at H ⊢; exact H)
                              have hji51w : (IntKind.i64.wrap (Int.tdiv (wrap64 ((Int.tmod (wrap64 (a2)) (wrap64 (8 * (t190.length : Int)))) + x15_3)) 8)) = ji51 := (i64_w _).trans hji51
                              (try (have hji51wl_ := hji51w; simp only [hl9_3] at hji51wl_))
                              by_cases c52 : 0 ≤ (ji51)
                              · rw [if_pos c52] at H
                                have c52b0 : decide (0 ≤ (ji51)) = true := decide_eq_true c52
                                clear c52
                                by_cases c53 : (ji51) < (x9_3.length : Int)
                                · rw [if_pos c53] at H
                                  have c53b0 : decide ((ji51) < (x9_3.length : Int)) = true := decide_eq_true c53
                                  clear c53
                                  obtain ⟨ji54, hji54⟩ : ∃ j_ : Int, (IntKind.u64.wrap (Int.tmod (wrap64 ((Int.tmod (wrap64 (a2)) (wrap64 (8 * (t190.length : Int)))) + x15_3)) 8)) = j_ := ⟨_, rfl⟩
                                  (try (have hji54l_ := hji54; simp only [hl9_3] at hji54l_))
                                  replace H : (if 0 ≤ (ji54) then (umpirelaw04_FcsGood.l0 kj43 a1 a3 (x9_3.set ((ji51) : Int).toNat (Go.bits .xor .u8 (rd x9_3 (ji51)) (shl .u8 1 (ji54)))) (wrap64 (8 * t197)) (Int.tmod (wrap64 (a2)) (wrap64 (8 * (t190.length : Int)))) true (wrap64 (x15_3 + 1))) else (none)) = some r := by first | (rw [hji54] at H; exact H) | (simp only [hji54] at H ⊢; exact H)
                                  by_cases c55 : 0 ≤ (ji54)
                                  · rw [if_pos c55] at H
                                    have c55b0 := eq_true c55
                                    have c55b1 : decide (0 ≤ (ji54)) = true := decide_eq_true c55
                                    clear c55
                                    obtain ⟨ji56, hji56⟩ : ∃ j_ : Int, (shl .u8 1 (ji54)) = j_ := ⟨_, rfl⟩
                                    replace H : (umpirelaw04_FcsGood.l0 kj43 a1 a3 (x9_3.set ((ji51) : Int).toNat (Go.bits .xor .u8 (rd x9_3 (ji51)) (ji56))) (wrap64 (8 * t197)) (Int.tmod (wrap64 (a2)) (wrap64 (8 * (t190.length : Int)))) true (wrap64 (x15_3 + 1))) = some r := by first | (rw [hji56] at H; exact H) | (simp only [hji56] at H ⊢; exact H)
                                    have hji56_ : (IntKind.u8.wrap (1 * 2 ^ min (ji54).toNat 8)) = ji56 := hji56
                                    have hji56z : (ji54) ≤ 8 → (IntKind.u8.wrap (1 * 2 ^ (ji54).toNat)) = ji56 := shl_small hji56
                                    have hji56u : (IntKind.u8.wrap (2 ^ min (ji54).toNat 8)) = ji56 := by have h_ := hji56_; rw [Int.one_mul] at h_; exact h_
                                    have hji56v : (ji54) ≤ 8 → (IntKind.u8.wrap (2 ^ (ji54).toNat)) = ji56 := fun hle_ => by have h_ := hji56z hle_; rw [Int.one_mul] at h_; exact h_
                                    obtain ⟨y201, hy201⟩ : ∃ y_ : List Int, y_ = (x9_3.set ((ji51) : Int).toNat (Go.bits .xor .u8 (rd x9_3 (ji51)) (ji56))) := ⟨_, rfl⟩
                                    replace H : (umpirelaw04_FcsGood.l0 kj43 a1 a3 y201 (wrap64 (8 * t197)) (Int.tmod (wrap64 (a2)) (wrap64 (8 * (t190.length : Int)))) true (wrap64 (x15_3 + 1))) = some r := by first | (rw [hy201]; with_reducible exact H) | (have H2_ := (Option.bind_some _ _).symm.trans H; rw [hy201]; with_reducible exact H2_) | (have H2_ := (Option.bind_some _ _).symm.trans H; with_reducible exact H2_) | with_reducible exact H | (rw [hy201]; exact H) | exact H
                                    have Ny201 := Aside0.mk hy201
                                    clear hy201
                                    have H' := Aside0.mk H
                                    clear H
                                    have p200 : 0 ≤ ((ji51) : Int) := of_decide_eq_true (by first | (with_reducible assumption) | assumption)
                                    have q200 : (ji51) < (x9_3.length : Int) := of_decide_eq_true (by first | (with_reducible assumption) | assumption)
                                    obtain ⟨ad200, e200, hx200_0⟩ := Kd.at_int (Kd.R_reads' HO_9.out).2.2 (ji51) p200 q200
                                    cases e200
                                    replace p200 := eq_true p200
                                    replace q200 := eq_true q200
                                    have p57 : 0 ≤ ((ji51) : Int) := of_decide_eq_true (by first | (with_reducible assumption) | assumption)
                                    have q57 : ((ji51) : Int) < ((x9_3.length : Int) : Int) := of_decide_eq_true (by first | (with_reducible assumption) | assumption)
                                    obtain ⟨go57, co57, eo57, gb57, gl57, cl57, HG57⟩ := Kd.R_form HO_9.out (by omega)
                                    (first | cases eo57 | (injection eo57 with ea_ en_ ec_; (first | subst ea_ | (injection ea_ with ea_; subst ea_)); subst ec_; clear en_))
                                    have GB57 := Aside0.mk gb57
                                    have GG57 := Aside0.mk HG57
                                    clear gb57 gl57 HG57
                                    (first | simp only [add_plain] at hx200_0 | skip)
                                    obtain ⟨hx57_0, hf57_0⟩ := Kd.R_celln 0 HO_9.out ((ji51) : Int) p57 q57
                                    replace p57 := eq_true p57
                                    replace q57 := eq_true q57
                                    have HP58 := Kd.R_putg HO_9.out ((ji51) : Int) (Go.bits .xor .u8 (rd x9_3 (ji51)) (ji56))
                                    go_wp2_with (first | ((with_reducible refine gate_store (t := 5) (p := 101) rfl ?_); refine store_event (t := 5) (p := 101) (v := ?vo_w59) (w1 := (wc.setCell ⟨go57, ((ji51) : Int).toNat, none⟩ (.int .u8 (Go.bits .xor .u8 (rd x9_3 (ji51)) (ji56))))) ?hg ?ho ?hn ?hr ?_; (case ho => rfl); (case hg => rfl); (case hn => rfl); (case hr => first | (go_simp; done) | (go_simp; rfl)); intro w59 hw; have hg : wc.grownBy w59 (some go57) := (by rw [hw]; exact HP58.2); have hp_ : Kd.R (Kd.int .u8) 5 w59 w.heap.size (fun _ => True) (.slice (some ⟨go57, 0, none⟩) x9_3.length co18) y201 := (by rw [hw, Ny201.out]; exact HP58.1); clear HP58; have n0_ := Aside0.mk (hp_); have n1_ := Aside0.mk ((by rw [hw]; exact below_set (HB.out) GB57.out : Below w.heap.size w w59)); clear HO_9; clear HB; have HO_9 := n0_; have HB := n1_; clear n0_ n1_; clear hg hw hp_))
                                    (try simp only [← hl9_3])
                                    go_roundg kj43
                                    case measure => have := HJ4.out; have := HJ15.out; have := HK3.out; have := HJ43.out; omega
                                    case rel => exact ⟨(y201), (true), (wrap64 (x15_3 + 1)), (by first | rfl | (simp; done) | (simp [*]; done)), (by first | rfl | (simp; done) | (simp [*]; done)), H', ⟨by have := HJ4.out; have := HJ15.out; have := HK3.out; have := HJ43.out; omega⟩, ⟨by (try simp only [hl9_3]); (with_reducible repeat (first | apply Kd.R_alloc | apply Kd.R_drewN | apply Kd.R_drew)); exact HO_9.out⟩, ⟨by repeat (first | (with_reducible first | exact HB.out | apply below_alloc | apply pw_below_drewN | apply below_drew1) | exact HB.out)⟩⟩
                                  · rw [if_neg c55] at H
                                    exact absurd H (by simp)
                                · rw [if_neg c53] at H
                                  exact absurd H (by simp)
                              · rw [if_neg c52] at H
                                exact absurd H (by simp)
                            · rw [if_neg c50] at H
                              have c50b0 : ((Go.bits .and .u32 (ji49) 1) == 1) = false := beq_eq_false_iff_ne.mpr c50
                              have c50b1 : ((Go.bits .and .u32 (ji49) 1) != 1) = true := bne_iff_ne.mpr c50
                              have H' := Aside0.mk H
                              clear H
                              go_wp2
                              (try simp only [← hl9_3])
                              go_roundg kj43
                              case measure => have := HJ4.out; have := HJ15.out; have := HK3.out; have := HJ43.out; omega
                              case rel => exact ⟨(x9_3), (x14_3), (wrap64 (x15_3 + 1)), (by first | rfl | (simp; done) | (simp [*]; done)), (by first | rfl | (simp; done) | (simp [*]; done)), H', ⟨by have := HJ4.out; have := HJ15.out; have := HK3.out; have := HJ43.out; omega⟩, ⟨by (try simp only [hl9_3]); (with_reducible repeat (first | apply Kd.R_alloc | apply Kd.R_drewN | apply Kd.R_drew)); exact HO_9.out⟩, ⟨by repeat (first | (with_reducible first | exact HB.out | apply below_alloc | apply pw_below_drewN | apply below_drew1) | exact HB.out)⟩⟩
                          · rw [if_neg c48] at H
                            exact absurd H (by simp)
                        · replace c46 := Bool.eq_false_iff.mpr c46
                          subst c46
                          have H1 : ((fcs_Good.f x9_3 a1).bind fun t202 => (some (t202 == (!x14_3)))) = some r := by rw [if_neg (show ¬ (false = true) by decide)] at H; exact H
                          clear H
                          have H := H1
                          clear H1
                          replace H := Option.bind_eq_some_iff.mp H
                          obtain ⟨t202, A600, H⟩ := H
                          replace H : (some (t202 == (!x14_3))) = some r := H
                          have A60 := Aside0.mk A600
                          clear A600
                          obtain rfl := Option.some.inj H
                          go_wp2_with (first | ((with_reducible refine gate_callee (f := 18) rfl ?_); refine goesL_ (some 104) rfl rfl Try.func18 (by kernel_rfl) rfl #[.slice Ao18 x9_3.length co18, .bool a1] rfl (by (try simp only [List.map_toArray, List.map_cons, List.map_nil]); first | done | rfl | (simp only [List.length_drop, List.length_take]; rfl)) ?_; (with_reducible refine (fcs_Good.calls _ _ x9_3 a1 t202 _ ?side1 ?side2 A60.out).mono ?_); (case side1 => repeat (first | exact (Kd.R_reads' HO_9.out).2.2 | (with_reducible refine Kd.C_alloc ?_ _) | (with_reducible refine Kd.C_drewN ?_ _) | (with_reducible refine Kd.C_drew ?_))); (case side2 => exact (Kd.R_reads' HO_9.out).2.1); rintro e w61 ⟨rfl, hb⟩; refine ⟨_, rfl, ?_⟩; have n0_ := Aside0.mk (Kd.R_below (by (with_reducible repeat (first | apply Kd.R_alloc | apply Kd.R_drewN | apply Kd.R_drew)); exact HO_9.out) hb); have n1_ := Aside0.mk (below_step (by repeat (first | (with_reducible first | exact HB.out | apply below_alloc | apply pw_below_drewN | apply below_drew1) | exact HB.out)) hb); clear HO_9; clear HB; have HO_9 := n0_; have HB := n1_; clear n0_ n1_; (try clear hb); (try clear hb2); (try clear hk); (try clear hi)))
                          go_ret
                          exact ⟨by first | rfl | (simp [errW_none, errW_some] <;> rfl) | (simp [*, errW_none, errW_some] <;> rfl), by repeat (first | (with_reducible first | exact HB.out | apply below_alloc | apply pw_below_drewN | apply below_drew1) | exact HB.out)⟩

/-- THE ONE PURE STATEMENT of umpirelaw04_FcsGood: yours. -/
def umpirelaw04_FcsGood.Pure : Prop := ∀ (l0 : List Int) (a1 : Bool) (a2 : Int) (a3 : Int), l0.length ≤ maxLen → l0.length * 1 ≤ 140737488351232 → (∀ x ∈ l0, (Lit.int .u8 x).wf = true) → (Lit.int .u16 a2).wf = true → (Lit.int .u32 a3).wf = true → ∃ k, umpirelaw04_FcsGood.f k l0 a1 a2 a3 = some true
theorem umpirelaw04_FcsGood.walk (P : umpirelaw04_FcsGood.Pure) (a0 : Option Addr) (len0 cap0 : Nat) (z0 : List Int) (a1 : Bool) (a2 : Int) (a3 : Int) (w : World) (w0 : (a0 = none ∧ len0 = 0 ∧ cap0 = 0 ∧ z0 = []) ∨ ∃ x, a0 = some x ∧ len0 ≤ cap0 ∧ cap0 ≤ maxLen ∧ z0.length = cap0 ∧ (∀ i, i < z0.length → w.cell? (x.add i) = some (.int .u8 (z0.getD i 0))) ∧ ∀ n ∈ z0, (Lit.int .u8 n).wf = true) (y0 : len0 * 1 ≤ 140737488351232) (w2 : (Lit.int .u16 a2).wf = true) (w3 : (Lit.int .u32 a3).wf = true) :
    Calls Try.prog 5 #[.slice a0 len0 cap0, .bool a1, .int .u16 a2, .int .u32 a3] w fun e w' => e = .returned (.bool true) ∧ Below w.heap.size w w' := by
  obtain ⟨l0, rfl, hr0, hm0, hw0, hc0⟩ := ReadsInt.ofRowC w0
  obtain ⟨k, h⟩ := P l0 a1 a2 a3 hm0 y0 hw0 w2 w3
  refine (umpirelaw04_FcsGood.calls k _ _ l0 a1 a2 a3 true w (Kd.C_of_reads (d := (0 : Int)) (h1 := fun _ => rfl) hr0) hc0 h).mono ?_
  rintro e w' ⟨rfl, hd⟩
  exact ⟨rfl, hd⟩

end Go.Proofs.Ytnokndhppdkmdaa.Print
