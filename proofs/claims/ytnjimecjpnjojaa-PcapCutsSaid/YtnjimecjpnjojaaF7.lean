-- laid by this session's own program (wip/mkprint.sh) for this claim
import Derived.Test.Ytnjimecjpnjojaa0
import Derived.Test.YtnjimecjpnjojaaE1
import Derived.Test.YtnjimecjpnjojaaF15
import Derived.Test.YtnjimecjpnjojaaF16
import Derived.Test.YtnjimecjpnjojaaF17
import Derived.Test.YtnjimecjpnjojaaF19
import Derived.Test.YtnjimecjpnjojaaF23
namespace Go.Proofs.Ytnjimecjpnjojaa.Print
open Go.RowKit Go.Proofs.YtnjimecjpnjojaaW.PrintWords Go.Proofs.YtnjimecjpnjojaaW.PrintLast Go.Proofs.YtnjimecjpnjojaaW.PrintMore
attribute [local go_sem] max2_int min2_int max_two min_two max_three min_three max_four min_four   -- for this text's walks alone
set_option linter.unusedVariables false
set_option linter.unusedSimpArgs false

attribute [local go_sem high] eqA36
/-! ### umpirelaw09_PcapCuts: function 7 -/
mutual
def umpirelaw09_PcapCuts.j0 : Nat → List (S46) → Int → Bool → Bool → Bool → Int → Int → Option (Bool)
  | 0, _, _, _, _, _, _, _ => none
  | k + 1, x1, x2, x22, x455000, x455001, x455002, x455003 => if x22 = true then ((umpirelaw09_awake.f k).bind fun t457 => (some t457)) else ((pcap_Put.f k x455000 x455001 x455002 x455003 x1).bind fun bt458 => (if bt458.2 = 0 then (umpirelaw09_PcapCuts.j1 k x1 x2 bt458.1 bt458.2 ((bt458.1.length : Int) == 0)) else (umpirelaw09_PcapCuts.j1 k x1 x2 bt458.1 bt458.2 true)))
def umpirelaw09_PcapCuts.j1 : Nat → List (S46) → Int → List Int → Int → Bool → Option (Bool)
  | 0, _, _, _, _, _ => none
  | k + 1, x1, x2, x7, x8, x36 => if x36 = true then (some (x8 == 4)) else (if (x7.length : Int) = 0 then (none) else (if 0 ≤ (Int.tmod (wrap64 (x2)) (x7.length : Int)) then (if (Int.tmod (wrap64 (x2)) (x7.length : Int)) ≤ (x7.length : Int) then ((pcap_Read.f k (x7.take ((Int.tmod (wrap64 (x2)) (x7.length : Int)) : Int).toNat)).bind fun bt466 => (umpirelaw09_PcapCuts.l0 k x1 (Int.tmod (wrap64 (x2)) (x7.length : Int)) bt466.2.2.2.2.1 24 0 bt466.2.2.2.2.2.1 bt466.2.2.2.2.2.2)) else (none)) else (none)))
def umpirelaw09_PcapCuts.j3 : Nat → List (S46) → Int → List (S46) → Int → Int → Int → Int → Option (Bool)
  | 0, _, _, _, _, _, _, _ => none
  | k + 1, x1, x9, x11, x13, x14, x477000, x477001 => if x9 < 24 then (if (x11.length : Int) = 0 then (some (x477000 == 0 && (x477001 == 2))) else (none)) else (if x13 < x9 then (if 0 ≤ x14 then (if x14 ≤ (x1.length : Int) then ((umpireref09_Same.f k x11 (x1.take (x14 : Int).toNat)).bind fun t484 => (if t484 = true then (some (x477000 == x13 && (x477001 == 2))) else (none))) else (none)) else (none)) else (if 0 ≤ x14 then (if x14 ≤ (x1.length : Int) then ((umpireref09_Same.f k x11 (x1.take (x14 : Int).toNat)).bind fun t489 => (if t489 = true then (some (x477000 == 0 && (x477001 == 0))) else (none))) else (none)) else (none)))
def umpirelaw09_PcapCuts.l0 : Nat → List (S46) → Int → List (S46) → Int → Int → Int → Int → Option (Bool)
  | 0, _, _, _, _, _, _, _ => none
  | k + 1, x1, x9, x11, x13, x14, x477000, x477001 => if x14 < (x1.length : Int) then (if 0 ≤ x14 then (if (wrap64 ((wrap64 (x13 + 16)) + (((rd_T46 x1 x14).f3).length : Int))) ≤ x9 then (umpirelaw09_PcapCuts.l0 k x1 x9 x11 (wrap64 ((wrap64 (x13 + 16)) + (((rd_T46 x1 x14).f3).length : Int))) (wrap64 (x14 + 1)) x477000 x477001) else (umpirelaw09_PcapCuts.j3 k x1 x9 x11 x13 x14 x477000 x477001)) else (none)) else (umpirelaw09_PcapCuts.j3 k x1 x9 x11 x13 x14 x477000 x477001)
end
def umpirelaw09_PcapCuts.f (k : Nat) (a0_0 : Bool) (a0_1 : Bool) (a0_2 : Int) (a0_3 : Int) (l1 : List (S46)) (a2 : Int) : Option (Bool) := (umpirelaw09_awake.f k).bind fun t455 => (if t455 = true then ((umpireref09_Few.f k l1).bind fun t456 => (umpirelaw09_PcapCuts.j0 k l1 a2 (!t456) a0_0 a0_1 a0_2 a0_3)) else (umpirelaw09_PcapCuts.j0 k l1 a2 true a0_0 a0_1 a0_2 a0_3))
theorem umpirelaw09_PcapCuts.mono_l : ∀ k, (∀ y0 y1 y2 y3 y4 y5 y6, LeO (umpirelaw09_PcapCuts.j0 k y0 y1 y2 y3 y4 y5 y6) (umpirelaw09_PcapCuts.j0 (k + 1) y0 y1 y2 y3 y4 y5 y6)) ∧ (∀ y0 y1 y2 y3 y4, LeO (umpirelaw09_PcapCuts.j1 k y0 y1 y2 y3 y4) (umpirelaw09_PcapCuts.j1 (k + 1) y0 y1 y2 y3 y4)) ∧ (∀ y0 y1 y2 y3 y4 y5 y6, LeO (umpirelaw09_PcapCuts.j3 k y0 y1 y2 y3 y4 y5 y6) (umpirelaw09_PcapCuts.j3 (k + 1) y0 y1 y2 y3 y4 y5 y6)) ∧ (∀ y0 y1 y2 y3 y4 y5 y6, LeO (umpirelaw09_PcapCuts.l0 k y0 y1 y2 y3 y4 y5 y6) (umpirelaw09_PcapCuts.l0 (k + 1) y0 y1 y2 y3 y4 y5 y6))
  | 0 => ⟨fun _ _ _ _ _ _ _ r h => by simp [umpirelaw09_PcapCuts.j0] at h, fun _ _ _ _ _ r h => by simp [umpirelaw09_PcapCuts.j1] at h, fun _ _ _ _ _ _ _ r h => by simp [umpirelaw09_PcapCuts.j3] at h, fun _ _ _ _ _ _ _ r h => by simp [umpirelaw09_PcapCuts.l0] at h⟩
  | k + 1 => by
    obtain ⟨ih0, ih1, ih2, ih3⟩ := umpirelaw09_PcapCuts.mono_l k
    refine ⟨?_, ?_, ?_, ?_⟩
    · intro y0 y1 y2 y3 y4 y5 y6
      unfold umpirelaw09_PcapCuts.j0
      repeat' first
      | (with_reducible exact ih0 _ _ _ _ _ _ _)
      | (with_reducible exact ih1 _ _ _ _ _)
      | (with_reducible exact ih2 _ _ _ _ _ _ _)
      | (with_reducible exact ih3 _ _ _ _ _ _ _)
      | (with_reducible exact pcap_Put.mono _ _ _ _ _ _)
      | (with_reducible exact pcap_Read.mono _ _)
      | (with_reducible exact umpirelaw09_awake.mono _)
      | (with_reducible exact umpireref09_Few.mono _ _)
      | (with_reducible exact umpireref09_Same.mono _ _ _)
      | (with_reducible exact LeO.refl _)
      | (with_reducible exact LeO.none _)
      | (with_reducible refine LeO.ite ?_ ?_)
      | (with_reducible refine LeO.bind ?_ (fun _ => ?_))
      | exact ih0 _ _ _ _ _ _ _
      | exact ih1 _ _ _ _ _
      | exact ih2 _ _ _ _ _ _ _
      | exact ih3 _ _ _ _ _ _ _
      | exact pcap_Put.mono _ _ _ _ _ _
      | exact pcap_Read.mono _ _
      | exact umpirelaw09_awake.mono _
      | exact umpireref09_Few.mono _ _
      | exact umpireref09_Same.mono _ _ _
      | exact LeO.none _
      | refine LeO.ite ?_ ?_
      | refine LeO.bind ?_ (fun _ => ?_)
    · intro y0 y1 y2 y3 y4
      unfold umpirelaw09_PcapCuts.j1
      repeat' first
      | (with_reducible exact ih0 _ _ _ _ _ _ _)
      | (with_reducible exact ih1 _ _ _ _ _)
      | (with_reducible exact ih2 _ _ _ _ _ _ _)
      | (with_reducible exact ih3 _ _ _ _ _ _ _)
      | (with_reducible exact pcap_Put.mono _ _ _ _ _ _)
      | (with_reducible exact pcap_Read.mono _ _)
      | (with_reducible exact umpirelaw09_awake.mono _)
      | (with_reducible exact umpireref09_Few.mono _ _)
      | (with_reducible exact umpireref09_Same.mono _ _ _)
      | (with_reducible exact LeO.refl _)
      | (with_reducible exact LeO.none _)
      | (with_reducible refine LeO.ite ?_ ?_)
      | (with_reducible refine LeO.bind ?_ (fun _ => ?_))
      | exact ih0 _ _ _ _ _ _ _
      | exact ih1 _ _ _ _ _
      | exact ih2 _ _ _ _ _ _ _
      | exact ih3 _ _ _ _ _ _ _
      | exact pcap_Put.mono _ _ _ _ _ _
      | exact pcap_Read.mono _ _
      | exact umpirelaw09_awake.mono _
      | exact umpireref09_Few.mono _ _
      | exact umpireref09_Same.mono _ _ _
      | exact LeO.none _
      | refine LeO.ite ?_ ?_
      | refine LeO.bind ?_ (fun _ => ?_)
    · intro y0 y1 y2 y3 y4 y5 y6
      unfold umpirelaw09_PcapCuts.j3
      repeat' first
      | (with_reducible exact ih0 _ _ _ _ _ _ _)
      | (with_reducible exact ih1 _ _ _ _ _)
      | (with_reducible exact ih2 _ _ _ _ _ _ _)
      | (with_reducible exact ih3 _ _ _ _ _ _ _)
      | (with_reducible exact pcap_Put.mono _ _ _ _ _ _)
      | (with_reducible exact pcap_Read.mono _ _)
      | (with_reducible exact umpirelaw09_awake.mono _)
      | (with_reducible exact umpireref09_Few.mono _ _)
      | (with_reducible exact umpireref09_Same.mono _ _ _)
      | (with_reducible exact LeO.refl _)
      | (with_reducible exact LeO.none _)
      | (with_reducible refine LeO.ite ?_ ?_)
      | (with_reducible refine LeO.bind ?_ (fun _ => ?_))
      | exact ih0 _ _ _ _ _ _ _
      | exact ih1 _ _ _ _ _
      | exact ih2 _ _ _ _ _ _ _
      | exact ih3 _ _ _ _ _ _ _
      | exact pcap_Put.mono _ _ _ _ _ _
      | exact pcap_Read.mono _ _
      | exact umpirelaw09_awake.mono _
      | exact umpireref09_Few.mono _ _
      | exact umpireref09_Same.mono _ _ _
      | exact LeO.none _
      | refine LeO.ite ?_ ?_
      | refine LeO.bind ?_ (fun _ => ?_)
    · intro y0 y1 y2 y3 y4 y5 y6
      unfold umpirelaw09_PcapCuts.l0
      repeat' first
      | (with_reducible exact ih0 _ _ _ _ _ _ _)
      | (with_reducible exact ih1 _ _ _ _ _)
      | (with_reducible exact ih2 _ _ _ _ _ _ _)
      | (with_reducible exact ih3 _ _ _ _ _ _ _)
      | (with_reducible exact pcap_Put.mono _ _ _ _ _ _)
      | (with_reducible exact pcap_Read.mono _ _)
      | (with_reducible exact umpirelaw09_awake.mono _)
      | (with_reducible exact umpireref09_Few.mono _ _)
      | (with_reducible exact umpireref09_Same.mono _ _ _)
      | (with_reducible exact LeO.refl _)
      | (with_reducible exact LeO.none _)
      | (with_reducible refine LeO.ite ?_ ?_)
      | (with_reducible refine LeO.bind ?_ (fun _ => ?_))
      | exact ih0 _ _ _ _ _ _ _
      | exact ih1 _ _ _ _ _
      | exact ih2 _ _ _ _ _ _ _
      | exact ih3 _ _ _ _ _ _ _
      | exact pcap_Put.mono _ _ _ _ _ _
      | exact pcap_Read.mono _ _
      | exact umpirelaw09_awake.mono _
      | exact umpireref09_Few.mono _ _
      | exact umpireref09_Same.mono _ _ _
      | exact LeO.none _
      | refine LeO.ite ?_ ?_
      | refine LeO.bind ?_ (fun _ => ?_)
theorem umpirelaw09_PcapCuts.mono : ∀ a0 a1 a2 a3 a4 a5 k, LeO (umpirelaw09_PcapCuts.f k a0 a1 a2 a3 a4 a5) (umpirelaw09_PcapCuts.f (k + 1) a0 a1 a2 a3 a4 a5) := by
  intro a0 a1 a2 a3 a4 a5 k
  obtain ⟨ih0, ih1, ih2, ih3⟩ := umpirelaw09_PcapCuts.mono_l k
  unfold umpirelaw09_PcapCuts.f
  repeat' first
      | (with_reducible exact ih0 _ _ _ _ _ _ _)
      | (with_reducible exact ih1 _ _ _ _ _)
      | (with_reducible exact ih2 _ _ _ _ _ _ _)
      | (with_reducible exact ih3 _ _ _ _ _ _ _)
      | (with_reducible exact pcap_Put.mono _ _ _ _ _ _)
      | (with_reducible exact pcap_Read.mono _ _)
      | (with_reducible exact umpirelaw09_awake.mono _)
      | (with_reducible exact umpireref09_Few.mono _ _)
      | (with_reducible exact umpireref09_Same.mono _ _ _)
      | (with_reducible exact LeO.refl _)
      | (with_reducible exact LeO.none _)
      | (with_reducible refine LeO.ite ?_ ?_)
      | (with_reducible refine LeO.bind ?_ (fun _ => ?_))
      | exact ih0 _ _ _ _ _ _ _
      | exact ih1 _ _ _ _ _
      | exact ih2 _ _ _ _ _ _ _
      | exact ih3 _ _ _ _ _ _ _
      | exact pcap_Put.mono _ _ _ _ _ _
      | exact pcap_Read.mono _ _
      | exact umpirelaw09_awake.mono _
      | exact umpireref09_Few.mono _ _
      | exact umpireref09_Same.mono _ _ _
      | exact LeO.none _
      | refine LeO.ite ?_ ?_
      | refine LeO.bind ?_ (fun _ => ?_)
set_option maxHeartbeats 8000000 in
set_option maxRecDepth 100000 in
theorem umpirelaw09_PcapCuts.calls (k : Nat) (a0_0 : Bool) (a0_1 : Bool) (a0_2 : Int) (a0_3 : Int) (A1 : Option Addr) (c1 : Nat) (l1 : List (S46)) (a2 : Int) (r : Bool) (w : World) (hr1 : Kd.C k46 w A1 l1.length l1) (hc1 : l1.length ≤ c1) (h : umpirelaw09_PcapCuts.f k a0_0 a0_1 a0_2 a0_3 l1 a2 = some r) :
    Calls Try.prog 7 #[.agg #[.bool a0_0, .bool a0_1, .int .u32 a0_2, .int .u32 a0_3], .slice A1 l1.length c1, .int .u32 a2] w fun e w' => e = .returned (.bool r) ∧ Below w.heap.size w w' := by
  have hu24 := Try.underlying24
  have hu36 := Try.underlying36
  have HR1 := Aside0.mk hr1
  have HC1 := Aside0.mk hc1
  clear hr1 hc1
  have HB := Aside0.mk (Below.refl w.heap.size w)
  have H : ((umpirelaw09_awake.f k).bind fun t455 => (if t455 = true then ((umpireref09_Few.f k l1).bind fun t456 => (umpirelaw09_PcapCuts.j0 k l1 a2 (!t456) a0_0 a0_1 a0_2 a0_3)) else (umpirelaw09_PcapCuts.j0 k l1 a2 true a0_0 a0_1 a0_2 a0_3))) = some r := h
  clear h
  have HC4 := Aside0.mk H
  clear H
  go_enter Try.func7, Try.ntmps7
  go_upto_region 1 with (first | ((with_reducible refine gate_dst (N := 3) rfl ?_); (try (refine gate_guard (by rfl) ?_; dsimp only)); refine box_event ?hg (N := 3) ?hd (cs := #[.bool a0_0, .bool a0_1, .int .u32 a0_2, .int .u32 a0_3]) (t := 24) ?hr ?_; (case hd => rfl); (case hg => rfl); (case hr => first | (go_simp; done) | (go_simp; rfl)); intro gb454 hg w5 hbox hb; have n0_ := Aside0.mk (below_step (by repeat (first | (with_reducible first | exact HB.out | apply below_alloc | apply pw_below_drewN | apply below_drew1) | exact HB.out)) hb); have n1_ := Aside0.mk (hbox); have n2_ := Aside0.mk ((by rw [hg]; exact (below_size (by repeat (first | (with_reducible first | exact HB.out | apply below_alloc | apply pw_below_drewN | apply below_drew1) | exact HB.out))) : w.heap.size ≤ gb454)); have n3_ := Aside0.mk ((by rw [hg]; exact (below_size (by repeat (first | (with_reducible first | exact HB.out | apply below_alloc | apply pw_below_drewN | apply below_drew1) | exact HB.out))) : w.heap.size ≤ gb454)); clear HB; have HB := n0_; have BK454 := n1_; have GW454 := n2_; have GE454 := n3_; clear n0_ n1_ n2_ n3_; clear hb hbox hg))
  (try simp only [Act.put, List.setIfInBounds_toArray, List.set_cons_zero, List.set_cons_succ])
  go_cut [22] (fun v22 wc => ∃ (kq : Nat) (x22_3 : Bool), v22 = .bool x22_3 ∧ Aside0 (umpirelaw09_PcapCuts.j0 kq l1 a2 x22_3 a0_0 a0_1 a0_2 a0_3 = some r) ∧ Aside0 (kq ≤ k) ∧ Aside0 (wc.heap[gb454]? = some (.cells #[.bool a0_0, .bool a0_1, .int .u32 a0_2, .int .u32 a0_3] 24 (0, 0))) ∧ Aside0 (Below w.heap.size w wc))
  case first =>
    have H := HC4.out
    clear HC4
    replace H := Option.bind_eq_some_iff.mp H
    obtain ⟨t455, A60, H⟩ := H
    replace H : (if t455 = true then ((umpireref09_Few.f k l1).bind fun t456 => (umpirelaw09_PcapCuts.j0 k l1 a2 (!t456) a0_0 a0_1 a0_2 a0_3)) else (umpirelaw09_PcapCuts.j0 k l1 a2 true a0_0 a0_1 a0_2 a0_3)) = some r := H
    have A6 := Aside0.mk A60
    clear A60
    by_cases c7 : t455 = true
    · subst c7
      have H1 : ((umpireref09_Few.f k l1).bind fun t456 => (umpirelaw09_PcapCuts.j0 k l1 a2 (!t456) a0_0 a0_1 a0_2 a0_3)) = some r := by rw [if_pos rfl] at H; exact H
      clear H
      have H := H1
      clear H1
      replace H := Option.bind_eq_some_iff.mp H
      obtain ⟨t456, A80, H⟩ := H
      replace H : (umpirelaw09_PcapCuts.j0 k l1 a2 (!t456) a0_0 a0_1 a0_2 a0_3) = some r := H
      have A8 := Aside0.mk A80
      clear A80
      have H' := Aside0.mk H
      clear H
      go_wp2_with (first | ((with_reducible refine gate_callee (f := 15) rfl ?_); refine goesL_ (some 16) rfl rfl Try.func15 (by kernel_rfl) rfl #[] rfl (by (try simp only [List.map_toArray, List.map_cons, List.map_nil]); first | done | rfl | (simp only [List.length_drop, List.length_take]; rfl)) ?_; (with_reducible refine (umpirelaw09_awake.calls k  true _ A6.out).mono ?_); rintro e w9 ⟨rfl, hb⟩; refine ⟨_, rfl, ?_⟩; have n0_ := Aside0.mk (blk_below (g := gb454) (o := .cells #[.bool a0_0, .bool a0_1, .int .u32 a0_2, .int .u32 a0_3] 24 (0, 0)) (by (with_reducible repeat (first | refine blk_drewN ?_ _ | refine blk_drew ?_ | refine blk_alloc ?_ _)); exact BK454.out) hb); have n1_ := Aside0.mk (below_step (by repeat (first | (with_reducible first | exact HB.out | apply below_alloc | apply pw_below_drewN | apply below_drew1 | refine below_set ?_ GE454.out) | exact HB.out)) hb); clear BK454; clear HB; have BK454 := n0_; have HB := n1_; clear n0_ n1_; (try clear hb); (try clear hb2); (try clear hk); (try clear hi)) | (go_at_call 16; (with_reducible refine (umpireref09_Few.calls k _ _ l1 t456 _ ?side1 ?side2 A8.out).mono ?_); (case side1 => repeat (first | exact (Kd.C_below HR1.out HB.out) | (with_reducible refine Kd.C_alloc ?_ _) | (with_reducible refine Kd.C_drewN ?_ _) | (with_reducible refine Kd.C_drew ?_))); (case side2 => exact HC1.out); rintro e w10 ⟨rfl, hb⟩; have n0_ := Aside0.mk (blk_below (g := gb454) (o := .cells #[.bool a0_0, .bool a0_1, .int .u32 a0_2, .int .u32 a0_3] 24 (0, 0)) (by (with_reducible repeat (first | refine blk_drewN ?_ _ | refine blk_drew ?_ | refine blk_alloc ?_ _)); exact BK454.out) hb); have n1_ := Aside0.mk (below_step (by repeat (first | (with_reducible first | exact HB.out | apply below_alloc | apply pw_below_drewN | apply below_drew1 | refine below_set ?_ GE454.out) | exact HB.out)) hb); clear BK454; clear HB; have BK454 := n0_; have HB := n1_; clear n0_ n1_; (try clear hb); (try clear hb2); (try clear hk); (try clear hi)))
      go_meet
      case rel => exact ⟨_, (!t456), (by first | rfl | (simp; done) | (simp [*]; done)), H', ⟨by first | omega | exact Nat.le_refl _⟩, ⟨by (with_reducible repeat (first | refine blk_drewN ?_ _ | refine blk_drew ?_ | refine blk_alloc ?_ _)); exact BK454.out⟩, ⟨by repeat (first | (with_reducible first | exact HB.out | apply below_alloc | apply pw_below_drewN | apply below_drew1 | refine below_set ?_ GE454.out) | exact HB.out)⟩⟩
    · replace c7 := Bool.eq_false_iff.mpr c7
      subst c7
      have H1 : (umpirelaw09_PcapCuts.j0 k l1 a2 true a0_0 a0_1 a0_2 a0_3) = some r := by rw [if_neg (show ¬ (false = true) by decide)] at H; exact H
      clear H
      have H := H1
      clear H1
      have H' := Aside0.mk H
      clear H
      go_wp2_with (first | ((with_reducible refine gate_callee (f := 15) rfl ?_); refine goesL_ (some 16) rfl rfl Try.func15 (by kernel_rfl) rfl #[] rfl (by (try simp only [List.map_toArray, List.map_cons, List.map_nil]); first | done | rfl | (simp only [List.length_drop, List.length_take]; rfl)) ?_; (with_reducible refine (umpirelaw09_awake.calls k  false _ A6.out).mono ?_); rintro e w11 ⟨rfl, hb⟩; refine ⟨_, rfl, ?_⟩; have n0_ := Aside0.mk (blk_below (g := gb454) (o := .cells #[.bool a0_0, .bool a0_1, .int .u32 a0_2, .int .u32 a0_3] 24 (0, 0)) (by (with_reducible repeat (first | refine blk_drewN ?_ _ | refine blk_drew ?_ | refine blk_alloc ?_ _)); exact BK454.out) hb); have n1_ := Aside0.mk (below_step (by repeat (first | (with_reducible first | exact HB.out | apply below_alloc | apply pw_below_drewN | apply below_drew1 | refine below_set ?_ GE454.out) | exact HB.out)) hb); clear BK454; clear HB; have BK454 := n0_; have HB := n1_; clear n0_ n1_; (try clear hb); (try clear hb2); (try clear hk); (try clear hi)))
      go_meet
      case rel => exact ⟨_, (true), (by first | rfl | (simp; done) | (simp [*]; done)), H', ⟨by first | omega | exact Nat.le_refl _⟩, ⟨by (with_reducible repeat (first | refine blk_drewN ?_ _ | refine blk_drew ?_ | refine blk_alloc ?_ _)); exact BK454.out⟩, ⟨by repeat (first | (with_reducible first | exact HB.out | apply below_alloc | apply pw_below_drewN | apply below_drew1 | refine below_set ?_ GE454.out) | exact HB.out)⟩⟩
  case rest =>
    clear HC4
    try clear c1
    try clear p2
    try clear c7
    obtain ⟨kq, x22_3, rfl, HA, HJ3, BK454, HB⟩ := hcut
    cases kq with
    | zero => exact absurd HA.out (by simp [umpirelaw09_PcapCuts.j0])
    | succ kj3 =>
      have H := HA.out
      clear HA
      simp only [umpirelaw09_PcapCuts.j0] at H
      by_cases c12 : x22_3 = true
      · subst c12
        have H1 : ((umpirelaw09_awake.f kj3).bind fun t457 => (some t457)) = some r := by rw [if_pos rfl] at H; exact H
        clear H
        have H := H1
        clear H1
        replace H := Option.bind_eq_some_iff.mp H
        obtain ⟨t457, A130, H⟩ := H
        replace H : (some t457) = some r := H
        have A13 := Aside0.mk A130
        clear A130
        obtain rfl := Option.some.inj H
        go_wp2_with (first | ((with_reducible refine gate_callee (f := 15) rfl ?_); refine goesL_ (some 23) rfl rfl Try.func15 (by kernel_rfl) rfl #[] rfl (by (try simp only [List.map_toArray, List.map_cons, List.map_nil]); first | done | rfl | (simp only [List.length_drop, List.length_take]; rfl)) ?_; (with_reducible refine (umpirelaw09_awake.calls kj3  t457 _ A13.out).mono ?_); rintro e w14 ⟨rfl, hb⟩; refine ⟨_, rfl, ?_⟩; have n0_ := Aside0.mk (blk_below (g := gb454) (o := .cells #[.bool a0_0, .bool a0_1, .int .u32 a0_2, .int .u32 a0_3] 24 (0, 0)) (by (with_reducible repeat (first | refine blk_drewN ?_ _ | refine blk_drew ?_ | refine blk_alloc ?_ _)); exact BK454.out) hb); have n1_ := Aside0.mk (below_step (by repeat (first | (with_reducible first | exact HB.out | apply below_alloc | apply pw_below_drewN | apply below_drew1 | refine below_set ?_ GE454.out) | exact HB.out)) hb); clear BK454; clear HB; have BK454 := n0_; have HB := n1_; clear n0_ n1_; (try clear hb); (try clear hb2); (try clear hk); (try clear hi)))
        go_ret
        exact ⟨by first | rfl | (simp [errW_none, errW_some] <;> rfl) | (simp [*, errW_none, errW_some] <;> rfl), by repeat (first | (with_reducible first | exact HB.out | apply below_alloc | apply pw_below_drewN | apply below_drew1 | refine below_set ?_ GE454.out) | exact HB.out)⟩
      · replace c12 := Bool.eq_false_iff.mpr c12
        subst c12
        have H1 : ((pcap_Put.f kj3 a0_0 a0_1 a0_2 a0_3 l1).bind fun bt458 => (if bt458.2 = 0 then (umpirelaw09_PcapCuts.j1 kj3 l1 a2 bt458.1 bt458.2 ((bt458.1.length : Int) == 0)) else (umpirelaw09_PcapCuts.j1 kj3 l1 a2 bt458.1 bt458.2 true))) = some r := by rw [if_neg (show ¬ (false = true) by decide)] at H; exact H
        clear H
        have H := H1
        clear H1
        replace H := Option.bind_eq_some_iff.mp H
        obtain ⟨⟨t458, t461⟩, A150, H⟩ := H
        replace H : (if t461 = 0 then (umpirelaw09_PcapCuts.j1 kj3 l1 a2 t458 t461 ((t458.length : Int) == 0)) else (umpirelaw09_PcapCuts.j1 kj3 l1 a2 t458 t461 true)) = some r := H
        have A15 := Aside0.mk A150
        clear A150
        have HC16 := Aside0.mk H
        clear H
        have hcz17_0 : wc.cell? ⟨gb454, 0, none⟩ = some (.bool a0_0) := (blk_cell BK454.out 0).trans rfl
        have hcz17_1 : wc.cell? ⟨gb454, 1, none⟩ = some (.bool a0_1) := (blk_cell BK454.out 1).trans rfl
        have hcz17_2 : wc.cell? ⟨gb454, 2, none⟩ = some (.int .u32 a0_2) := (blk_cell BK454.out 2).trans rfl
        have hcz17_3 : wc.cell? ⟨gb454, 3, none⟩ = some (.int .u32 a0_3) := (blk_cell BK454.out 3).trans rfl
        have hfz17_0 := blk_frozen BK454.out 0
        have hfz17_1 := blk_frozen BK454.out 1
        have hfz17_2 := blk_frozen BK454.out 2
        have hfz17_3 := blk_frozen BK454.out 3
        go_upto_region 4 with (first | ((with_reducible refine gate_callee (f := 17) rfl ?_); refine goesL_ (some 27) rfl rfl Try.func17 (by kernel_rfl) rfl #[.agg #[.bool a0_0, .bool a0_1, .int .u32 a0_2, .int .u32 a0_3], .slice A1 l1.length c1] rfl (by (try simp only [List.map_toArray, List.map_cons, List.map_nil]); first | done | rfl | (simp only [List.length_drop, List.length_take]; rfl)) ?_; (with_reducible refine (pcap_Put.calls kj3 a0_0 a0_1 a0_2 a0_3 _ _ l1 t458 t461 _ ?side1 ?side2 A15.out).mono ?_); (case side1 => repeat (first | exact (Kd.C_below HR1.out HB.out) | (with_reducible refine Kd.C_alloc ?_ _) | (with_reducible refine Kd.C_drewN ?_ _) | (with_reducible refine Kd.C_drew ?_))); (case side2 => exact HC1.out); rintro e w18 ⟨v459, rfl, ho0, hb⟩; refine ⟨_, rfl, ?_⟩; have n0_ := Aside0.mk (Kd.R_lower ho0 (below_size (by repeat (first | (with_reducible first | exact HB.out | apply below_alloc | apply pw_below_drewN | apply below_drew1 | refine below_set ?_ GE454.out) | exact HB.out)))); have n1_ := Aside0.mk (blk_below (g := gb454) (o := .cells #[.bool a0_0, .bool a0_1, .int .u32 a0_2, .int .u32 a0_3] 24 (0, 0)) (by (with_reducible repeat (first | refine blk_drewN ?_ _ | refine blk_drew ?_ | refine blk_alloc ?_ _)); exact BK454.out) hb); have n2_ := Aside0.mk (below_step (by repeat (first | (with_reducible first | exact HB.out | apply below_alloc | apply pw_below_drewN | apply below_drew1 | refine below_set ?_ GE454.out) | exact HB.out)) hb); clear BK454; clear HB; have HO460 := n0_; have BK454 := n1_; have HB := n2_; clear n0_ n1_ n2_; (try clear hb); (try clear hb2); (try clear hk); (try clear hi); (try clear ho0)))
        (try simp only [Act.put, List.setIfInBounds_toArray, List.set_cons_zero, List.set_cons_succ])
        go_cut [36] (fun v36 wc => ∃ (kq : Nat) (x36_15 : Bool), v36 = .bool x36_15 ∧ Aside0 (umpirelaw09_PcapCuts.j1 kq l1 a2 t458 t461 x36_15 = some r) ∧ Aside0 (kq ≤ kj3) ∧ Aside0 (Kd.R (Kd.int .u8) 5 wc w.heap.size (fun _ => True) v459 t458) ∧ Aside0 (wc.heap[gb454]? = some (.cells #[.bool a0_0, .bool a0_1, .int .u32 a0_2, .int .u32 a0_3] 24 (0, 0))) ∧ Aside0 (Below w.heap.size w wc))
        case first =>
          have H := HC16.out
          clear HC16
          by_cases c19 : t461 = 0
          · rw [if_pos c19] at H
            have c19b0 : (t461 == 0) = true := beq_iff_eq.mpr c19
            have c19b1 : (t461 != 0) = false := bne_eq_false_iff_eq.mpr c19
            clear c19
            (first | rw [c19b0] | (simp only [i64_w, i32_w]; rw [c19b0]) | skip)
            have H' := Aside0.mk H
            clear H
            obtain ⟨Ao20, co20, eo20⟩ := Kd.R_slice HO460.out
            subst eo20
            go_wp2
            go_meet
            case rel => exact ⟨_, (((t458.length : Int) == 0)), (by first | rfl | (simp; done) | (simp [*]; done)), H', ⟨by have := HJ3.out; first | omega | exact Nat.le_refl _⟩, ⟨by (with_reducible repeat (first | apply Kd.R_alloc | apply Kd.R_drewN | apply Kd.R_drew)); exact HO460.out⟩, ⟨by (with_reducible repeat (first | refine blk_drewN ?_ _ | refine blk_drew ?_ | refine blk_alloc ?_ _)); exact BK454.out⟩, ⟨by repeat (first | (with_reducible first | exact HB.out | apply below_alloc | apply pw_below_drewN | apply below_drew1 | refine below_set ?_ GE454.out) | exact HB.out)⟩⟩
          · rw [if_neg c19] at H
            have c19b0 : (t461 == 0) = false := beq_eq_false_iff_ne.mpr c19
            have c19b1 : (t461 != 0) = true := bne_iff_ne.mpr c19
            (first | rw [c19b0] | (simp only [i64_w, i32_w]; rw [c19b0]) | skip)
            have H' := Aside0.mk H
            clear H
            go_wp2
            go_meet
            case rel => exact ⟨_, (true), (by first | rfl | (simp; done) | (simp [*]; done)), H', ⟨by have := HJ3.out; first | omega | exact Nat.le_refl _⟩, ⟨by (with_reducible repeat (first | apply Kd.R_alloc | apply Kd.R_drewN | apply Kd.R_drew)); exact HO460.out⟩, ⟨by (with_reducible repeat (first | refine blk_drewN ?_ _ | refine blk_drew ?_ | refine blk_alloc ?_ _)); exact BK454.out⟩, ⟨by repeat (first | (with_reducible first | exact HB.out | apply below_alloc | apply pw_below_drewN | apply below_drew1 | refine below_set ?_ GE454.out) | exact HB.out)⟩⟩
        case rest =>
          clear HC16
          try clear c1
          try clear p2
          try clear c7
          try clear c12
          try clear c15
          try clear c17
          try clear c19
          try clear c19b0
          try clear c19b1
          try clear hcz17_0
          try clear hcz17_1
          try clear hcz17_2
          try clear hcz17_3
          try clear hfz17_0
          try clear hfz17_1
          try clear hfz17_2
          try clear hfz17_3
          try clear p2
          obtain ⟨kq, x36_15, rfl, HA, HJ15, HO_7, BK454, HB⟩ := hcut
          cases kq with
          | zero => exact absurd HA.out (by simp [umpirelaw09_PcapCuts.j1])
          | succ kj15 =>
            have H := HA.out
            clear HA
            simp only [umpirelaw09_PcapCuts.j1] at H
            by_cases c21 : x36_15 = true
            · subst c21
              have H1 : (some (t461 == 4)) = some r := by rw [if_pos rfl] at H; exact H
              clear H
              have H := H1
              clear H1
              obtain rfl := Option.some.inj H
              go_wp2
              go_ret
              exact ⟨by first | rfl | (simp [errW_none, errW_some] <;> rfl) | (simp [*, errW_none, errW_some] <;> rfl), by repeat (first | (with_reducible first | exact HB.out | apply below_alloc | apply pw_below_drewN | apply below_drew1 | refine below_set ?_ GE454.out) | exact HB.out)⟩
            · replace c21 := Bool.eq_false_iff.mpr c21
              subst c21
              have H1 : (if (t458.length : Int) = 0 then (none) else (if 0 ≤ (Int.tmod (wrap64 (a2)) (t458.length : Int)) then (if (Int.tmod (wrap64 (a2)) (t458.length : Int)) ≤ (t458.length : Int) then ((pcap_Read.f kj15 (t458.take ((Int.tmod (wrap64 (a2)) (t458.length : Int)) : Int).toNat)).bind fun bt466 => (umpirelaw09_PcapCuts.l0 kj15 l1 (Int.tmod (wrap64 (a2)) (t458.length : Int)) bt466.2.2.2.2.1 24 0 bt466.2.2.2.2.2.1 bt466.2.2.2.2.2.2)) else (none)) else (none))) = some r := by rw [if_neg (show ¬ (false = true) by decide)] at H; exact H
              clear H
              have H := H1
              clear H1
              by_cases c22 : (t458.length : Int) = 0
              · rw [if_pos c22] at H
                exact absurd H (by simp)
              · rw [if_neg c22] at H
                have c22b0 : ((t458.length : Int) == 0) = false := beq_eq_false_iff_ne.mpr c22
                have c22b1 : ((t458.length : Int) != 0) = true := bne_iff_ne.mpr c22
                have c22b2 : ¬ (t458 = []) := fun h_ => c22 (by rw [h_]; rfl)
                obtain ⟨ji23, hji23⟩ : ∃ j_ : Int, (Int.tmod (wrap64 (a2)) (t458.length : Int)) = j_ := ⟨_, rfl⟩
                replace H : (if 0 ≤ (ji23) then (if (ji23) ≤ (t458.length : Int) then ((pcap_Read.f kj15 (t458.take ((ji23) : Int).toNat)).bind fun bt466 => (umpirelaw09_PcapCuts.l0 kj15 l1 ji23 bt466.2.2.2.2.1 24 0 bt466.2.2.2.2.2.1 bt466.2.2.2.2.2.2)) else (none)) else (none)) = some r := by first | (rw [hji23] at H; exact H) | (simp only [hji23] at H ⊢; exact H)
                by_cases c24 : 0 ≤ (ji23)
                · rw [if_pos c24] at H
                  have c24b0 := eq_true c24
                  have c24b1 : decide (0 ≤ (ji23)) = true := decide_eq_true c24
                  clear c24
                  by_cases c25 : (ji23) ≤ (t458.length : Int)
                  · rw [if_pos c25] at H
                    have c25b0 := eq_true c25
                    have c25b1 : decide ((ji23) ≤ (t458.length : Int)) = true := decide_eq_true c25
                    clear c25
                    obtain ⟨y462, hy462⟩ : ∃ y_ : List Int, y_ = (t458.take ((ji23) : Int).toNat) := ⟨_, rfl⟩
                    replace H : ((pcap_Read.f kj15 y462).bind fun bt466 => (umpirelaw09_PcapCuts.l0 kj15 l1 ji23 bt466.2.2.2.2.1 24 0 bt466.2.2.2.2.2.1 bt466.2.2.2.2.2.2)) = some r := by first | (rw [hy462]; with_reducible exact H) | (have H2_ := (Option.bind_some _ _).symm.trans H; rw [hy462]; with_reducible exact H2_) | (have H2_ := (Option.bind_some _ _).symm.trans H; with_reducible exact H2_) | with_reducible exact H | (rw [hy462]; exact H) | exact H
                    have Ny462 := Aside0.mk hy462
                    clear hy462
                    replace H := Option.bind_eq_some_iff.mp H
                    obtain ⟨⟨t466, t467, t468, t469, t470, t473, t474⟩, A260, H⟩ := H
                    replace H : (umpirelaw09_PcapCuts.l0 kj15 l1 ji23 t470 24 0 t473 t474) = some r := H
                    have A26 := Aside0.mk A260
                    clear A260
                    have HC27 := Aside0.mk H
                    clear H
                    obtain ⟨Ao28, co28, eo28⟩ := Kd.R_slice HO_7.out
                    subst eo28
                    have q29 : ((ji23) : Int) ≤ ((t458.length : Int) : Int) := of_decide_eq_true (by first | (with_reducible assumption) | assumption)
                    obtain ⟨i029, hi029, _, hsz29, _⟩ := info_parts info5
                    have hroom29 : t458.length ≤ co28 := (Kd.R_reads' HO_7.out).2.1
                    have hC29 : Kd.C (Kd.int .u8) _ Ao28 t458.length t458 := (Kd.R_reads' HO_7.out).2.2
                    have hcut29 := cut_to (P := Try.prog) 28 5 .i64 Try.underlying28 hi029 Ao28 t458.length co28 (ji23) (of_decide_eq_true (by first | (with_reducible assumption) | assumption)) q29 hroom29
                    have hr29 := Kd.C_take (m := ((ji23) : Int).toNat) hC29 (by omega)
                    have hy29 : y462.length = ((ji23) : Int).toNat := (by rw [Ny462.out, List.length_take]; omega)
                    rw [← Ny462.out] at hr29
                    rw [← hy29] at hcut29
                    have HR465 := Aside0.mk hr29
                    have HC465 := Aside0.mk (show y462.length ≤ co28 from by omega)
                    clear hr29 hC29 hroom29 hi029 hsz29
                    have KY29 := Aside0.mk hy29
                    clear hy29
                    have KL29 := Aside0.mk (show ((ji23) : Int).toNat ≤ t458.length from by omega)
                    replace q29 := eq_true q29
                    go_upto_block 0 with (first | ((with_reducible refine gate_callee (f := 19) rfl ?_); refine goesL_ (some 48) rfl rfl Try.func19 (by kernel_rfl) rfl #[.slice Ao28 y462.length co28] rfl (by (try simp only [List.map_toArray, List.map_cons, List.map_nil]); first | done | rfl | (simp only [List.length_drop, List.length_take]; rfl)) ?_; (with_reducible refine (pcap_Read.calls kj15 _ _ y462 t466 t467 t468 t469 t470 t473 t474 _ ?side1 ?side2 A26.out).mono ?_); (case side1 => repeat (first | exact (by repeat (first | (with_reducible exact HR465.out) | (with_reducible refine Kd.C_alloc ?_ _) | (with_reducible refine Kd.C_drewN ?_ _) | (with_reducible refine Kd.C_drew ?_) | exact HR465.out)) | (with_reducible refine Kd.C_alloc ?_ _) | (with_reducible refine Kd.C_drewN ?_ _) | (with_reducible refine Kd.C_drew ?_))); (case side2 => exact HC465.out); rintro e w30 ⟨v471, rfl, ho0, hb⟩; refine ⟨_, rfl, ?_⟩; have n0_ := Aside0.mk (Kd.R_below (by (with_reducible repeat (first | apply Kd.R_alloc | apply Kd.R_drewN | apply Kd.R_drew)); exact HO_7.out) hb); have n1_ := Aside0.mk (Kd.S_lower (Kd.S_new' ho0 (Kd.R_lt (by (with_reducible repeat (first | apply Kd.R_alloc | apply Kd.R_drewN | apply Kd.R_drew)); exact HO_7.out))) (below_size (by repeat (first | (with_reducible first | exact HB.out | apply below_alloc | apply pw_below_drewN | apply below_drew1 | refine below_set ?_ GE454.out) | exact HB.out)))); have n2_ := Aside0.mk (blk_below (g := gb454) (o := .cells #[.bool a0_0, .bool a0_1, .int .u32 a0_2, .int .u32 a0_3] 24 (0, 0)) (by (with_reducible repeat (first | refine blk_drewN ?_ _ | refine blk_drew ?_ | refine blk_alloc ?_ _)); exact BK454.out) hb); have n3_ := Aside0.mk (Kd.C_below (by repeat (first | (with_reducible exact HR465.out) | (with_reducible refine Kd.C_alloc ?_ _) | (with_reducible refine Kd.C_drewN ?_ _) | (with_reducible refine Kd.C_drew ?_) | exact HR465.out)) hb); have n4_ := Aside0.mk (below_step (by repeat (first | (with_reducible first | exact HB.out | apply below_alloc | apply pw_below_drewN | apply below_drew1 | refine below_set ?_ GE454.out) | exact HB.out)) hb); clear HO_7; clear BK454; clear HR465; clear HB; have HO_7 := n0_; have HO472 := n1_; have BK454 := n2_; have HR465 := n3_; have HB := n4_; clear n0_ n1_ n2_ n3_ n4_; (try clear hb); (try clear hb2); (try clear hk); (try clear hi); (try clear ho0)) | ((with_reducible refine gate_dst (N := 10) rfl ?_); (try (refine gate_guard (by rfl) ?_; dsimp only)); refine box_event ?hg (N := 10) ?hd (cs := #[.bool false, .bool false, .int .u32 0, .int .u32 0]) (t := 24) ?hr ?_; (case hd => rfl); (case hg => rfl); (case hr => first | (go_simp; done) | (go_simp; rfl)); intro gb475 hg w31 hbox hb; have n0_ := Aside0.mk (Kd.R_below (by (with_reducible repeat (first | apply Kd.R_alloc | apply Kd.R_drewN | apply Kd.R_drew)); exact HO_7.out) hb); have n1_ := Aside0.mk (Kd.S_below (by (with_reducible repeat (first | apply Kd.S_alloc | apply Kd.S_drewN | apply Kd.S_drew)); exact HO472.out) hb); have n2_ := Aside0.mk (blk_below (g := gb454) (o := .cells #[.bool a0_0, .bool a0_1, .int .u32 a0_2, .int .u32 a0_3] 24 (0, 0)) (by (with_reducible repeat (first | refine blk_drewN ?_ _ | refine blk_drew ?_ | refine blk_alloc ?_ _)); exact BK454.out) hb); have n3_ := Aside0.mk (Kd.C_below (by repeat (first | (with_reducible exact HR465.out) | (with_reducible refine Kd.C_alloc ?_ _) | (with_reducible refine Kd.C_drewN ?_ _) | (with_reducible refine Kd.C_drew ?_) | exact HR465.out)) hb); have n4_ := Aside0.mk (below_step (by repeat (first | (with_reducible first | exact HB.out | apply below_alloc | apply pw_below_drewN | apply below_drew1 | refine below_set ?_ GE454.out) | exact HB.out)) hb); have n5_ := Aside0.mk (hbox); have n6_ := Aside0.mk ((by rw [hg]; exact (below_size (by repeat (first | (with_reducible first | exact HB.out | apply below_alloc | apply pw_below_drewN | apply below_drew1 | refine below_set ?_ GE454.out) | exact HB.out))) : w.heap.size ≤ gb475)); have n7_ := Aside0.mk ((by rw [hg]; exact (below_size (by repeat (first | (with_reducible first | exact HB.out | apply below_alloc | apply pw_below_drewN | apply below_drew1 | refine below_set ?_ GE454.out) | exact HB.out))) : w.heap.size ≤ gb475)); have n8_ := Aside0.mk ((by rw [hg]; exact Nat.ne_of_lt (blk_lt (g := gb454) (o := .cells #[.bool a0_0, .bool a0_1, .int .u32 a0_2, .int .u32 a0_3] 24 (0, 0)) (by (with_reducible repeat (first | refine blk_drewN ?_ _ | refine blk_drew ?_ | refine blk_alloc ?_ _)); exact BK454.out)) : gb454 ≠ gb475)); have n9_ := Aside0.mk ((by rw [hg]; exact Nat.ne_of_gt (blk_lt (g := gb454) (o := .cells #[.bool a0_0, .bool a0_1, .int .u32 a0_2, .int .u32 a0_3] 24 (0, 0)) (by (with_reducible repeat (first | refine blk_drewN ?_ _ | refine blk_drew ?_ | refine blk_alloc ?_ _)); exact BK454.out)) : gb475 ≠ gb454)); clear HO_7; clear HO472; clear BK454; clear HR465; clear HB; have HO_7 := n0_; have HO472 := n1_; have BK454 := n2_; have HR465 := n3_; have HB := n4_; have BK475 := n5_; have GW475 := n6_; have GE475 := n7_; have NB454_475 := n8_; have NB475_454 := n9_; clear n0_ n1_ n2_ n3_ n4_ n5_ n6_ n7_ n8_ n9_; clear hb hbox hg) | ((with_reducible refine gate_dst (N := 12) rfl ?_); (try (refine gate_guard (by rfl) ?_; dsimp only)); refine box_event ?hg (N := 12) ?hd (cs := #[.int .i64 0, .int .i64 0]) (t := 36) ?hr ?_; (case hd => rfl); (case hg => rfl); (case hr => first | (go_simp; done) | (go_simp; rfl)); intro gb476 hg w32 hbox hb; have n0_ := Aside0.mk (Kd.R_below (by (with_reducible repeat (first | apply Kd.R_alloc | apply Kd.R_drewN | apply Kd.R_drew)); exact HO_7.out) hb); have n1_ := Aside0.mk (Kd.S_below (by (with_reducible repeat (first | apply Kd.S_alloc | apply Kd.S_drewN | apply Kd.S_drew)); exact HO472.out) hb); have n2_ := Aside0.mk (blk_below (g := gb454) (o := .cells #[.bool a0_0, .bool a0_1, .int .u32 a0_2, .int .u32 a0_3] 24 (0, 0)) (by (with_reducible repeat (first | refine blk_drewN ?_ _ | refine blk_drew ?_ | refine blk_alloc ?_ _)); exact BK454.out) hb); have n3_ := Aside0.mk (Kd.C_below (by repeat (first | (with_reducible exact HR465.out) | (with_reducible refine Kd.C_alloc ?_ _) | (with_reducible refine Kd.C_drewN ?_ _) | (with_reducible refine Kd.C_drew ?_) | exact HR465.out)) hb); have n4_ := Aside0.mk (blk_below (g := gb475) (o := .cells #[.bool false, .bool false, .int .u32 0, .int .u32 0] 24 (0, 0)) (by (with_reducible repeat (first | refine blk_drewN ?_ _ | refine blk_drew ?_ | refine blk_alloc ?_ _)); exact BK475.out) hb); have n5_ := Aside0.mk (below_step (by repeat (first | (with_reducible first | exact HB.out | apply below_alloc | apply pw_below_drewN | apply below_drew1 | refine below_set ?_ GE454.out | refine below_set ?_ GE475.out) | exact HB.out)) hb); have n6_ := Aside0.mk (hbox); have n7_ := Aside0.mk ((by rw [hg]; exact (below_size (by repeat (first | (with_reducible first | exact HB.out | apply below_alloc | apply pw_below_drewN | apply below_drew1 | refine below_set ?_ GE454.out | refine below_set ?_ GE475.out) | exact HB.out))) : w.heap.size ≤ gb476)); have n8_ := Aside0.mk ((by rw [hg]; exact (below_size (by repeat (first | (with_reducible first | exact HB.out | apply below_alloc | apply pw_below_drewN | apply below_drew1 | refine below_set ?_ GE454.out | refine below_set ?_ GE475.out) | exact HB.out))) : w.heap.size ≤ gb476)); have n9_ := Aside0.mk ((by rw [hg]; exact Nat.ne_of_lt (blk_lt (g := gb454) (o := .cells #[.bool a0_0, .bool a0_1, .int .u32 a0_2, .int .u32 a0_3] 24 (0, 0)) (by (with_reducible repeat (first | refine blk_drewN ?_ _ | refine blk_drew ?_ | refine blk_alloc ?_ _)); exact BK454.out)) : gb454 ≠ gb476)); have n10_ := Aside0.mk ((by rw [hg]; exact Nat.ne_of_gt (blk_lt (g := gb454) (o := .cells #[.bool a0_0, .bool a0_1, .int .u32 a0_2, .int .u32 a0_3] 24 (0, 0)) (by (with_reducible repeat (first | refine blk_drewN ?_ _ | refine blk_drew ?_ | refine blk_alloc ?_ _)); exact BK454.out)) : gb476 ≠ gb454)); have n11_ := Aside0.mk ((by rw [hg]; exact Nat.ne_of_lt (blk_lt (g := gb475) (o := .cells #[.bool false, .bool false, .int .u32 0, .int .u32 0] 24 (0, 0)) (by (with_reducible repeat (first | refine blk_drewN ?_ _ | refine blk_drew ?_ | refine blk_alloc ?_ _)); exact BK475.out)) : gb475 ≠ gb476)); have n12_ := Aside0.mk ((by rw [hg]; exact Nat.ne_of_gt (blk_lt (g := gb475) (o := .cells #[.bool false, .bool false, .int .u32 0, .int .u32 0] 24 (0, 0)) (by (with_reducible repeat (first | refine blk_drewN ?_ _ | refine blk_drew ?_ | refine blk_alloc ?_ _)); exact BK475.out)) : gb476 ≠ gb475)); clear HO_7; clear HO472; clear BK454; clear HR465; clear BK475; clear HB; have HO_7 := n0_; have HO472 := n1_; have BK454 := n2_; have HR465 := n3_; have BK475 := n4_; have HB := n5_; have BK476 := n6_; have GW476 := n7_; have GE476 := n8_; have NB454_476 := n9_; have NB476_454 := n10_; have NB475_476 := n11_; have NB476_475 := n12_; clear n0_ n1_ n2_ n3_ n4_ n5_ n6_ n7_ n8_ n9_ n10_ n11_ n12_; clear hb hbox hg; have hnb33 := NB475_454.out; have hnc33 := NB454_475.out; have hnb34 := NB475_476.out; have hnc34 := NB476_475.out; have hcz35_0 : w32.cell? ⟨gb475, 0, none⟩ = some (.bool false) := (blk_cell BK475.out 0).trans rfl; have hcz35_1 : w32.cell? ⟨gb475, 1, none⟩ = some (.bool false) := (blk_cell BK475.out 1).trans rfl; have hcz35_2 : w32.cell? ⟨gb475, 2, none⟩ = some (.int .u32 0) := (blk_cell BK475.out 2).trans rfl; have hcz35_3 : w32.cell? ⟨gb475, 3, none⟩ = some (.int .u32 0) := (blk_cell BK475.out 3).trans rfl; have hfz35_0 := blk_frozen BK475.out 0; have hfz35_1 := blk_frozen BK475.out 1; have hfz35_2 := blk_frozen BK475.out 2; have hfz35_3 := blk_frozen BK475.out 3; have hnb36 := NB476_454.out; have hnc36 := NB454_476.out; have hcz37_0 : w32.cell? ⟨gb476, 0, none⟩ = some (.int .i64 0) := (blk_cell BK476.out 0).trans rfl; have hcz37_1 : w32.cell? ⟨gb476, 1, none⟩ = some (.int .i64 0) := (blk_cell BK476.out 1).trans rfl; have hfz37_0 := blk_frozen BK476.out 0; have hfz37_1 := blk_frozen BK476.out 1))
                    (try simp only [Act.put, List.setIfInBounds_toArray, List.set_cons_zero, List.set_cons_succ])
                    go_cut [13, 14] (fun v13 v14 wc => ∃ (kq : Nat) (x13_26 : Int) (x14_26 : Int), v13 = .int .i64 x13_26 ∧ v14 = .int .i64 x14_26 ∧ Aside0 (umpirelaw09_PcapCuts.j3 kq l1 ji23 t470 x13_26 x14_26 t473 t474 = some r) ∧ Aside0 (kq ≤ kj15) ∧ Aside0 (Kd.S k46 46 wc w.heap.size (fun _ => True) v471 t470) ∧ Aside0 (wc.heap[gb454]? = some (.cells #[.bool a0_0, .bool a0_1, .int .u32 a0_2, .int .u32 a0_3] 24 (0, 0))) ∧ Aside0 (wc.heap[gb475]? = some (.cells #[.bool t466, .bool t467, .int .u32 t468, .int .u32 t469] 24 (0, 0))) ∧ Aside0 (wc.heap[gb476]? = some (.cells #[.int .i64 t473, .int .i64 t474] 36 (0, 0))) ∧ Aside0 (Below w.heap.size w wc))
                    case first =>
                      have H := HC27.out
                      clear HC27
                      have H' := Aside0.mk H
                      clear H
                      go_wp2
                      go_loopg [13, 14] kj15 (fun kq v13 v14 w' => ∃ (x13_3 : Int) (x14_3 : Int), v13 = .int .i64 x13_3 ∧ v14 = .int .i64 x14_3 ∧ Aside0 (umpirelaw09_PcapCuts.l0 kq l1 ji23 t470 x13_3 x14_3 t473 t474 = some r) ∧ Aside0 (kq ≤ kj15) ∧ Aside0 (Kd.S k46 46 w' w.heap.size (fun _ => True) v471 t470) ∧ Aside0 (w'.heap[gb454]? = some (.cells #[.bool a0_0, .bool a0_1, .int .u32 a0_2, .int .u32 a0_3] 24 (0, 0))) ∧ Aside0 (w'.heap[gb475]? = some (.cells #[.bool t466, .bool t467, .int .u32 t468, .int .u32 t469] 24 (0, 0))) ∧ Aside0 (w'.heap[gb476]? = some (.cells #[.int .i64 t473, .int .i64 t474] 36 (0, 0))) ∧ Aside0 (Below w.heap.size w w'))
                      case atStart => exact ⟨(24), (0), (by first | rfl | (simp; done) | (simp [*]; done)), (by first | rfl | (simp; done) | (simp [*]; done)), H', ⟨Nat.le_refl _⟩, ⟨by (with_reducible repeat (first | apply Kd.S_alloc | apply Kd.S_drewN | apply Kd.S_drew)); exact Kd.S_mono (Kd.S_far (p := ⟨gb476, 1, none⟩) (Kd.S_far (p := ⟨gb476, 0, none⟩) (Kd.S_far (p := ⟨gb475, 3, none⟩) (Kd.S_far (p := ⟨gb475, 2, none⟩) (Kd.S_far (p := ⟨gb475, 1, none⟩) (Kd.S_far (p := ⟨gb475, 0, none⟩) (Kd.S_types (Kd.S_types HO472.out BK475.out (by decide)) BK476.out (by decide)) (fun _ hk => hk.1.2) (.bool t466)) (fun _ hk => hk.1.2) (.bool t467)) (fun _ hk => hk.1.2) (.int .u32 t468)) (fun _ hk => hk.1.2) (.int .u32 t469)) (fun _ hk => hk.2) (.int .i64 t473)) (fun _ hk => hk.2) (.int .i64 t474)) (fun _ hk => trivial)⟩, ⟨by (with_reducible repeat (first | refine blk_drewN ?_ _ | refine blk_drew ?_ | refine blk_alloc ?_ _)); refine blk_far ?_ NB454_476.out _; (with_reducible repeat (first | refine blk_drewN ?_ _ | refine blk_drew ?_ | refine blk_alloc ?_ _)); refine blk_far ?_ NB454_476.out _; (with_reducible repeat (first | refine blk_drewN ?_ _ | refine blk_drew ?_ | refine blk_alloc ?_ _)); refine blk_far ?_ NB454_475.out _; (with_reducible repeat (first | refine blk_drewN ?_ _ | refine blk_drew ?_ | refine blk_alloc ?_ _)); refine blk_far ?_ NB454_475.out _; (with_reducible repeat (first | refine blk_drewN ?_ _ | refine blk_drew ?_ | refine blk_alloc ?_ _)); refine blk_far ?_ NB454_475.out _; (with_reducible repeat (first | refine blk_drewN ?_ _ | refine blk_drew ?_ | refine blk_alloc ?_ _)); refine blk_far ?_ NB454_475.out _; (with_reducible repeat (first | refine blk_drewN ?_ _ | refine blk_drew ?_ | refine blk_alloc ?_ _)); exact BK454.out⟩, ⟨by (with_reducible repeat (first | refine blk_drewN ?_ _ | refine blk_drew ?_ | refine blk_alloc ?_ _)); refine blk_far ?_ NB475_476.out _; (with_reducible repeat (first | refine blk_drewN ?_ _ | refine blk_drew ?_ | refine blk_alloc ?_ _)); refine blk_far ?_ NB475_476.out _; (with_reducible repeat (first | refine blk_drewN ?_ _ | refine blk_drew ?_ | refine blk_alloc ?_ _)); refine blk_put (cs := #[.bool t466, .bool t467, .int .u32 t468, .int .u32 0]) ?_ 3 _ rfl; (with_reducible repeat (first | refine blk_drewN ?_ _ | refine blk_drew ?_ | refine blk_alloc ?_ _)); refine blk_put (cs := #[.bool t466, .bool t467, .int .u32 0, .int .u32 0]) ?_ 2 _ rfl; (with_reducible repeat (first | refine blk_drewN ?_ _ | refine blk_drew ?_ | refine blk_alloc ?_ _)); refine blk_put (cs := #[.bool t466, .bool false, .int .u32 0, .int .u32 0]) ?_ 1 _ rfl; (with_reducible repeat (first | refine blk_drewN ?_ _ | refine blk_drew ?_ | refine blk_alloc ?_ _)); refine blk_put (cs := #[.bool false, .bool false, .int .u32 0, .int .u32 0]) ?_ 0 _ rfl; (with_reducible repeat (first | refine blk_drewN ?_ _ | refine blk_drew ?_ | refine blk_alloc ?_ _)); exact BK475.out⟩, ⟨by (with_reducible repeat (first | refine blk_drewN ?_ _ | refine blk_drew ?_ | refine blk_alloc ?_ _)); refine blk_put (cs := #[.int .i64 t473, .int .i64 0]) ?_ 1 _ rfl; (with_reducible repeat (first | refine blk_drewN ?_ _ | refine blk_drew ?_ | refine blk_alloc ?_ _)); refine blk_put (cs := #[.int .i64 0, .int .i64 0]) ?_ 0 _ rfl; (with_reducible repeat (first | refine blk_drewN ?_ _ | refine blk_drew ?_ | refine blk_alloc ?_ _)); refine blk_far ?_ NB476_475.out _; (with_reducible repeat (first | refine blk_drewN ?_ _ | refine blk_drew ?_ | refine blk_alloc ?_ _)); refine blk_far ?_ NB476_475.out _; (with_reducible repeat (first | refine blk_drewN ?_ _ | refine blk_drew ?_ | refine blk_alloc ?_ _)); refine blk_far ?_ NB476_475.out _; (with_reducible repeat (first | refine blk_drewN ?_ _ | refine blk_drew ?_ | refine blk_alloc ?_ _)); refine blk_far ?_ NB476_475.out _; (with_reducible repeat (first | refine blk_drewN ?_ _ | refine blk_drew ?_ | refine blk_alloc ?_ _)); exact BK476.out⟩, ⟨by repeat (first | (with_reducible first | exact HB.out | apply below_alloc | apply pw_below_drewN | apply below_drew1 | refine below_set ?_ GE454.out | refine below_set ?_ GE475.out | refine below_set ?_ GE476.out) | exact HB.out)⟩⟩
                      case round =>
                        clear H'
                        try clear c1
                        try clear c2
                        try clear p2
                        try clear q2
                        try clear c3
                        try clear p6
                        try clear c7
                        try clear c12
                        try clear c15
                        try clear c17
                        try clear c19
                        try clear c19b0
                        try clear c19b1
                        try clear c21
                        try clear c22
                        try clear c22b0
                        try clear c22b1
                        try clear c22b2
                        try clear c24
                        try clear c24b0
                        try clear c24b1
                        try clear c25
                        try clear c25b0
                        try clear c25b1
                        try clear q29
                        try clear c33
                        try clear c34
                        try clear c36
                        try clear hcz17_0
                        try clear hcz17_1
                        try clear hcz17_2
                        try clear hcz17_3
                        try clear hcz35_0
                        try clear hcz35_1
                        try clear hcz35_2
                        try clear hcz35_3
                        try clear hcz37_0
                        try clear hcz37_1
                        try clear hfz17_0
                        try clear hfz17_1
                        try clear hfz17_2
                        try clear hfz17_3
                        try clear hfz35_0
                        try clear hfz35_1
                        try clear hfz35_2
                        try clear hfz35_3
                        try clear hfz37_0
                        try clear hfz37_1
                        try clear p2
                        try clear q29
                        obtain ⟨x13_3, x14_3, rfl, rfl, HA, HK3, HO_11, BK454, BK475, BK476, HB⟩ := hrel
                        cases gk with
                        | zero => exact absurd HA.out (by simp [umpirelaw09_PcapCuts.l0])
                        | succ k3 =>
                          have H := HA.out
                          clear HA
                          simp only [umpirelaw09_PcapCuts.l0] at H
                          by_cases c38 : x14_3 < (l1.length : Int)
                          · rw [if_pos c38] at H
                            have c38b0 : decide (x14_3 < (l1.length : Int)) = true := decide_eq_true c38
                            clear c38
                            (first | rw [c38b0] | (simp only [i64_w, i32_w]; rw [c38b0]) | skip)
                            by_cases c39 : 0 ≤ x14_3
                            · rw [if_pos c39] at H
                              have c39b0 : decide (0 ≤ x14_3) = true := decide_eq_true c39
                              clear c39
                              by_cases c40 : (wrap64 ((wrap64 (x13_3 + 16)) + (((rd_T46 l1 x14_3).f3).length : Int))) ≤ ji23
                              · rw [if_pos c40] at H
                                have c40b0 : decide ((wrap64 ((wrap64 (x13_3 + 16)) + (((rd_T46 l1 x14_3).f3).length : Int))) ≤ ji23) = true := decide_eq_true c40
                                clear c40
                                have H' := Aside0.mk H
                                clear H
                                have p477 : 0 ≤ (x14_3 : Int) := of_decide_eq_true (by first | (with_reducible assumption) | assumption)
                                have q477 : x14_3 < (l1.length : Int) := of_decide_eq_true (by first | (with_reducible assumption) | assumption)
                                obtain ⟨ad477, A477_3, c477_3, e477, hx477_0, hx477_1, hx477_2, hx477_3, hl477_3, hi477_3⟩ := at_T46 HR1.out x14_3 p477 q477
                                cases e477
                                replace hx477_0 := (HB.out.cell (World.block_lt_of_cell? w _ hx477_0)).trans hx477_0
                                replace hx477_1 := (HB.out.cell (World.block_lt_of_cell? w _ hx477_1)).trans hx477_1
                                replace hx477_2 := (HB.out.cell (World.block_lt_of_cell? w _ hx477_2)).trans hx477_2
                                replace hx477_3 := (HB.out.cell (World.block_lt_of_cell? w _ hx477_3)).trans hx477_3
                                have HR477_3 := Aside0.mk hi477_3
                                have HC477_3 := Aside0.mk hl477_3
                                clear hi477_3 hl477_3
                                replace p477 := eq_true p477
                                replace q477 := eq_true q477
                                have p478 : 0 ≤ (x14_3 : Int) := of_decide_eq_true (by first | (with_reducible assumption) | assumption)
                                have q478 : x14_3 < (l1.length : Int) := of_decide_eq_true (by first | (with_reducible assumption) | assumption)
                                obtain ⟨ad478, A478_3, c478_3, e478, hx478_0, hx478_1, hx478_2, hx478_3, hl478_3, hi478_3⟩ := at_T46 HR1.out x14_3 p478 q478
                                obtain rfl : ad477 = ad478 := (by injection e478)
                                replace hx478_0 := (HB.out.cell (World.block_lt_of_cell? w _ hx478_0)).trans hx478_0
                                replace hx478_1 := (HB.out.cell (World.block_lt_of_cell? w _ hx478_1)).trans hx478_1
                                replace hx478_2 := (HB.out.cell (World.block_lt_of_cell? w _ hx478_2)).trans hx478_2
                                replace hx478_3 := (HB.out.cell (World.block_lt_of_cell? w _ hx478_3)).trans hx478_3
                                have HR478_3 := Aside0.mk hi478_3
                                have HC478_3 := Aside0.mk hl478_3
                                clear hi478_3 hl478_3
                                replace p478 := eq_true p478
                                replace q478 := eq_true q478
                                have ea_ := Option.some.inj (hx477_3.symm.trans hx478_3)
                                injection ea_ with ea_ en_ ec_
                                subst ea_
                                subst ec_
                                clear en_
                                go_wp2
                                go_roundg k3
                                case measure => have := HJ3.out; have := HJ15.out; have := HK3.out; omega
                                case rel => exact ⟨(wrap64 ((wrap64 (x13_3 + 16)) + (((rd_T46 l1 x14_3).f3).length : Int))), (wrap64 (x14_3 + 1)), (by first | rfl | (simp; done) | (simp [*]; done)), (by first | rfl | (simp; done) | (simp [*]; done)), H', ⟨by have := HJ3.out; have := HJ15.out; have := HK3.out; omega⟩, ⟨by (with_reducible repeat (first | apply Kd.S_alloc | apply Kd.S_drewN | apply Kd.S_drew)); exact HO_11.out⟩, ⟨by (with_reducible repeat (first | refine blk_drewN ?_ _ | refine blk_drew ?_ | refine blk_alloc ?_ _)); exact BK454.out⟩, ⟨by (with_reducible repeat (first | refine blk_drewN ?_ _ | refine blk_drew ?_ | refine blk_alloc ?_ _)); exact BK475.out⟩, ⟨by (with_reducible repeat (first | refine blk_drewN ?_ _ | refine blk_drew ?_ | refine blk_alloc ?_ _)); exact BK476.out⟩, ⟨by repeat (first | (with_reducible first | exact HB.out | apply below_alloc | apply pw_below_drewN | apply below_drew1 | refine below_set ?_ GE454.out | refine below_set ?_ GE475.out | refine below_set ?_ GE476.out) | exact HB.out)⟩⟩
                              · rw [if_neg c40] at H
                                have c40b0 : decide ((wrap64 ((wrap64 (x13_3 + 16)) + (((rd_T46 l1 x14_3).f3).length : Int))) ≤ ji23) = false := decide_eq_false c40
                                clear c40
                                have H' := Aside0.mk H
                                clear H
                                have p477 : 0 ≤ (x14_3 : Int) := of_decide_eq_true (by first | (with_reducible assumption) | assumption)
                                have q477 : x14_3 < (l1.length : Int) := of_decide_eq_true (by first | (with_reducible assumption) | assumption)
                                obtain ⟨ad477, A477_3, c477_3, e477, hx477_0, hx477_1, hx477_2, hx477_3, hl477_3, hi477_3⟩ := at_T46 HR1.out x14_3 p477 q477
                                cases e477
                                replace hx477_0 := (HB.out.cell (World.block_lt_of_cell? w _ hx477_0)).trans hx477_0
                                replace hx477_1 := (HB.out.cell (World.block_lt_of_cell? w _ hx477_1)).trans hx477_1
                                replace hx477_2 := (HB.out.cell (World.block_lt_of_cell? w _ hx477_2)).trans hx477_2
                                replace hx477_3 := (HB.out.cell (World.block_lt_of_cell? w _ hx477_3)).trans hx477_3
                                have HR477_3 := Aside0.mk hi477_3
                                have HC477_3 := Aside0.mk hl477_3
                                clear hi477_3 hl477_3
                                replace p477 := eq_true p477
                                replace q477 := eq_true q477
                                go_wp2
                                go_meet
                                case rel => exact ⟨_, (x13_3), (x14_3), (by first | rfl | (simp; done) | (simp [*]; done)), (by first | rfl | (simp; done) | (simp [*]; done)), H', ⟨by have := HJ3.out; have := HJ15.out; have := HK3.out; first | omega | exact Nat.le_refl _⟩, ⟨by (with_reducible repeat (first | apply Kd.S_alloc | apply Kd.S_drewN | apply Kd.S_drew)); exact HO_11.out⟩, ⟨by (with_reducible repeat (first | refine blk_drewN ?_ _ | refine blk_drew ?_ | refine blk_alloc ?_ _)); exact BK454.out⟩, ⟨by (with_reducible repeat (first | refine blk_drewN ?_ _ | refine blk_drew ?_ | refine blk_alloc ?_ _)); exact BK475.out⟩, ⟨by (with_reducible repeat (first | refine blk_drewN ?_ _ | refine blk_drew ?_ | refine blk_alloc ?_ _)); exact BK476.out⟩, ⟨by repeat (first | (with_reducible first | exact HB.out | apply below_alloc | apply pw_below_drewN | apply below_drew1 | refine below_set ?_ GE454.out | refine below_set ?_ GE475.out | refine below_set ?_ GE476.out) | exact HB.out)⟩⟩
                            · rw [if_neg c39] at H
                              exact absurd H (by simp)
                          · rw [if_neg c38] at H
                            have c38b0 : decide (x14_3 < (l1.length : Int)) = false := decide_eq_false c38
                            clear c38
                            (first | rw [c38b0] | (simp only [i64_w, i32_w]; rw [c38b0]) | skip)
                            have H' := Aside0.mk H
                            clear H
                            go_wp2
                            go_meet
                            case rel => exact ⟨_, (x13_3), (x14_3), (by first | rfl | (simp; done) | (simp [*]; done)), (by first | rfl | (simp; done) | (simp [*]; done)), H', ⟨by have := HJ3.out; have := HJ15.out; have := HK3.out; first | omega | exact Nat.le_refl _⟩, ⟨by (with_reducible repeat (first | apply Kd.S_alloc | apply Kd.S_drewN | apply Kd.S_drew)); exact HO_11.out⟩, ⟨by (with_reducible repeat (first | refine blk_drewN ?_ _ | refine blk_drew ?_ | refine blk_alloc ?_ _)); exact BK454.out⟩, ⟨by (with_reducible repeat (first | refine blk_drewN ?_ _ | refine blk_drew ?_ | refine blk_alloc ?_ _)); exact BK475.out⟩, ⟨by (with_reducible repeat (first | refine blk_drewN ?_ _ | refine blk_drew ?_ | refine blk_alloc ?_ _)); exact BK476.out⟩, ⟨by repeat (first | (with_reducible first | exact HB.out | apply below_alloc | apply pw_below_drewN | apply below_drew1 | refine below_set ?_ GE454.out | refine below_set ?_ GE475.out | refine below_set ?_ GE476.out) | exact HB.out)⟩⟩
                    case rest =>
                      clear HC27
                      try clear c1
                      try clear c2
                      try clear p2
                      try clear q2
                      try clear c3
                      try clear c4
                      try clear p4
                      try clear q4
                      try clear hx4
                      try clear p6
                      try clear c7
                      try clear c12
                      try clear c15
                      try clear c17
                      try clear c19
                      try clear c19b0
                      try clear c19b1
                      try clear c21
                      try clear c22
                      try clear c22b0
                      try clear c22b1
                      try clear c22b2
                      try clear c24
                      try clear c24b0
                      try clear c24b1
                      try clear c25
                      try clear c25b0
                      try clear c25b1
                      try clear q29
                      try clear c33
                      try clear c34
                      try clear c36
                      try clear c38
                      try clear c38b0
                      try clear c39
                      try clear c39b0
                      try clear c40
                      try clear c40b0
                      try clear hcz17_0
                      try clear hcz17_1
                      try clear hcz17_2
                      try clear hcz17_3
                      try clear hcz35_0
                      try clear hcz35_1
                      try clear hcz35_2
                      try clear hcz35_3
                      try clear hcz37_0
                      try clear hcz37_1
                      try clear hfz17_0
                      try clear hfz17_1
                      try clear hfz17_2
                      try clear hfz17_3
                      try clear hfz35_0
                      try clear hfz35_1
                      try clear hfz35_2
                      try clear hfz35_3
                      try clear hfz37_0
                      try clear hfz37_1
                      try clear hx477_0
                      try clear hx477_1
                      try clear hx477_2
                      try clear hx477_3
                      try clear hx478_0
                      try clear hx478_1
                      try clear hx478_2
                      try clear hx478_3
                      try clear p2
                      try clear p477
                      try clear p478
                      try clear p6
                      try clear q2
                      try clear q29
                      try clear q477
                      try clear q478
                      obtain ⟨kq, x13_26, x14_26, rfl, rfl, HA, HJ26, HO_11, BK454, BK475, BK476, HB⟩ := hcut
                      cases kq with
                      | zero => exact absurd HA.out (by simp [umpirelaw09_PcapCuts.j3])
                      | succ kj26 =>
                        have H := HA.out
                        clear HA
                        simp only [umpirelaw09_PcapCuts.j3] at H
                        by_cases c41 : ji23 < 24
                        · rw [if_pos c41] at H
                          have c41b0 : decide (ji23 < 24) = true := decide_eq_true c41
                          clear c41
                          by_cases c42 : (t470.length : Int) = 0
                          · rw [if_pos c42] at H
                            have c42b0 : ((t470.length : Int) == 0) = true := beq_iff_eq.mpr c42
                            have c42b1 : ((t470.length : Int) != 0) = false := bne_eq_false_iff_eq.mpr c42
                            clear c42
                            obtain rfl := Option.some.inj H
                            obtain ⟨Ao43, co43, eo43⟩ := Kd.S_slice HO_11.out
                            subst eo43
                            have hnb44 := NB476_454.out
                            have hnc44 := NB454_476.out
                            have hnb45 := NB476_475.out
                            have hnc45 := NB475_476.out
                            have hcz46_0 : wc.cell? ⟨gb476, 0, none⟩ = some (.int .i64 t473) := (blk_cell BK476.out 0).trans rfl
                            have hcz46_1 : wc.cell? ⟨gb476, 1, none⟩ = some (.int .i64 t474) := (blk_cell BK476.out 1).trans rfl
                            have hfz46_0 := blk_frozen BK476.out 0
                            have hfz46_1 := blk_frozen BK476.out 1
                            go_wp2
                            go_ret
                            exact ⟨by first | rfl | (simp [errW_none, errW_some] <;> rfl) | (simp only [← hji23]; first | rfl | (simp [errW_none, errW_some] <;> rfl)) | (simp [*, errW_none, errW_some] <;> rfl), by repeat (first | (with_reducible first | exact HB.out | apply below_alloc | apply pw_below_drewN | apply below_drew1 | refine below_set ?_ GE454.out | refine below_set ?_ GE475.out | refine below_set ?_ GE476.out) | exact HB.out)⟩
                          · rw [if_neg c42] at H
                            exact absurd H (by simp)
                        · rw [if_neg c41] at H
                          have c41b0 : decide (ji23 < 24) = false := decide_eq_false c41
                          clear c41
                          by_cases c47 : x13_26 < ji23
                          · rw [if_pos c47] at H
                            have c47b0 : decide (x13_26 < ji23) = true := decide_eq_true c47
                            clear c47
                            by_cases c48 : 0 ≤ x14_26
                            · rw [if_pos c48] at H
                              have c48b0 := eq_true c48
                              have c48b1 : decide (0 ≤ x14_26) = true := decide_eq_true c48
                              clear c48
                              by_cases c49 : x14_26 ≤ (l1.length : Int)
                              · rw [if_pos c49] at H
                                have c49b0 := eq_true c49
                                have c49b1 : decide (x14_26 ≤ (l1.length : Int)) = true := decide_eq_true c49
                                clear c49
                                obtain ⟨y480, hy480⟩ : ∃ y_ : List (S46), y_ = (l1.take (x14_26 : Int).toNat) := ⟨_, rfl⟩
                                replace H : ((umpireref09_Same.f kj26 t470 y480).bind fun t484 => (if t484 = true then (some (t473 == x13_26 && (t474 == 2))) else (none))) = some r := by first | (rw [hy480]; with_reducible exact H) | (have H2_ := (Option.bind_some _ _).symm.trans H; rw [hy480]; with_reducible exact H2_) | (have H2_ := (Option.bind_some _ _).symm.trans H; with_reducible exact H2_) | with_reducible exact H | (rw [hy480]; exact H) | exact H
                                have Ny480 := Aside0.mk hy480
                                clear hy480
                                replace H := Option.bind_eq_some_iff.mp H
                                obtain ⟨t484, A500, H⟩ := H
                                replace H : (if t484 = true then (some (t473 == x13_26 && (t474 == 2))) else (none)) = some r := H
                                have A50 := Aside0.mk A500
                                clear A500
                                by_cases c51 : t484 = true
                                · subst c51
                                  have H1 : (some (t473 == x13_26 && (t474 == 2))) = some r := by rw [if_pos rfl] at H; exact H
                                  clear H
                                  have H := H1
                                  clear H1
                                  obtain rfl := Option.some.inj H
                                  go_wp2_with (first | ((with_reducible refine gate_dst (N := 15) rfl ?_); (try (refine gate_guard (by rfl) ?_; dsimp only)); refine box_event ?hg (N := 15) ?hd (cs := #[.int .i64 0, .int .i64 0]) (t := 36) ?hr ?_; (case hd => rfl); (case hg => rfl); (case hr => first | (go_simp; done) | (go_simp; rfl)); intro gb479 hg w52 hbox hb; have n0_ := Aside0.mk (Kd.S_below (by (with_reducible repeat (first | apply Kd.S_alloc | apply Kd.S_drewN | apply Kd.S_drew)); exact HO_11.out) hb); have n1_ := Aside0.mk (blk_below (g := gb454) (o := .cells #[.bool a0_0, .bool a0_1, .int .u32 a0_2, .int .u32 a0_3] 24 (0, 0)) (by (with_reducible repeat (first | refine blk_drewN ?_ _ | refine blk_drew ?_ | refine blk_alloc ?_ _)); exact BK454.out) hb); have n2_ := Aside0.mk (blk_below (g := gb475) (o := .cells #[.bool t466, .bool t467, .int .u32 t468, .int .u32 t469] 24 (0, 0)) (by (with_reducible repeat (first | refine blk_drewN ?_ _ | refine blk_drew ?_ | refine blk_alloc ?_ _)); exact BK475.out) hb); have n3_ := Aside0.mk (blk_below (g := gb476) (o := .cells #[.int .i64 t473, .int .i64 t474] 36 (0, 0)) (by (with_reducible repeat (first | refine blk_drewN ?_ _ | refine blk_drew ?_ | refine blk_alloc ?_ _)); exact BK476.out) hb); have n4_ := Aside0.mk (below_step (by repeat (first | (with_reducible first | exact HB.out | apply below_alloc | apply pw_below_drewN | apply below_drew1 | refine below_set ?_ GE454.out | refine below_set ?_ GE475.out | refine below_set ?_ GE476.out) | exact HB.out)) hb); have n5_ := Aside0.mk (hbox); have n6_ := Aside0.mk ((by rw [hg]; exact (below_size (by repeat (first | (with_reducible first | exact HB.out | apply below_alloc | apply pw_below_drewN | apply below_drew1 | refine below_set ?_ GE454.out | refine below_set ?_ GE475.out | refine below_set ?_ GE476.out) | exact HB.out))) : w.heap.size ≤ gb479)); have n7_ := Aside0.mk ((by rw [hg]; exact (below_size (by repeat (first | (with_reducible first | exact HB.out | apply below_alloc | apply pw_below_drewN | apply below_drew1 | refine below_set ?_ GE454.out | refine below_set ?_ GE475.out | refine below_set ?_ GE476.out) | exact HB.out))) : w.heap.size ≤ gb479)); have n8_ := Aside0.mk ((by rw [hg]; exact Nat.ne_of_lt (blk_lt (g := gb454) (o := .cells #[.bool a0_0, .bool a0_1, .int .u32 a0_2, .int .u32 a0_3] 24 (0, 0)) (by (with_reducible repeat (first | refine blk_drewN ?_ _ | refine blk_drew ?_ | refine blk_alloc ?_ _)); exact BK454.out)) : gb454 ≠ gb479)); have n9_ := Aside0.mk ((by rw [hg]; exact Nat.ne_of_gt (blk_lt (g := gb454) (o := .cells #[.bool a0_0, .bool a0_1, .int .u32 a0_2, .int .u32 a0_3] 24 (0, 0)) (by (with_reducible repeat (first | refine blk_drewN ?_ _ | refine blk_drew ?_ | refine blk_alloc ?_ _)); exact BK454.out)) : gb479 ≠ gb454)); have n10_ := Aside0.mk ((by rw [hg]; exact Nat.ne_of_lt (blk_lt (g := gb475) (o := .cells #[.bool t466, .bool t467, .int .u32 t468, .int .u32 t469] 24 (0, 0)) (by (with_reducible repeat (first | refine blk_drewN ?_ _ | refine blk_drew ?_ | refine blk_alloc ?_ _)); exact BK475.out)) : gb475 ≠ gb479)); have n11_ := Aside0.mk ((by rw [hg]; exact Nat.ne_of_gt (blk_lt (g := gb475) (o := .cells #[.bool t466, .bool t467, .int .u32 t468, .int .u32 t469] 24 (0, 0)) (by (with_reducible repeat (first | refine blk_drewN ?_ _ | refine blk_drew ?_ | refine blk_alloc ?_ _)); exact BK475.out)) : gb479 ≠ gb475)); have n12_ := Aside0.mk ((by rw [hg]; exact Nat.ne_of_lt (blk_lt (g := gb476) (o := .cells #[.int .i64 t473, .int .i64 t474] 36 (0, 0)) (by (with_reducible repeat (first | refine blk_drewN ?_ _ | refine blk_drew ?_ | refine blk_alloc ?_ _)); exact BK476.out)) : gb476 ≠ gb479)); have n13_ := Aside0.mk ((by rw [hg]; exact Nat.ne_of_gt (blk_lt (g := gb476) (o := .cells #[.int .i64 t473, .int .i64 t474] 36 (0, 0)) (by (with_reducible repeat (first | refine blk_drewN ?_ _ | refine blk_drew ?_ | refine blk_alloc ?_ _)); exact BK476.out)) : gb479 ≠ gb476)); clear HO_11; clear BK454; clear BK475; clear BK476; clear HB; have HO_11 := n0_; have BK454 := n1_; have BK475 := n2_; have BK476 := n3_; have HB := n4_; have BK479 := n5_; have GW479 := n6_; have GE479 := n7_; have NB454_479 := n8_; have NB479_454 := n9_; have NB475_479 := n10_; have NB479_475 := n11_; have NB476_479 := n12_; have NB479_476 := n13_; clear n0_ n1_ n2_ n3_ n4_ n5_ n6_ n7_ n8_ n9_ n10_ n11_ n12_ n13_; clear hb hbox hg; have hnb53 := NB479_454.out; have hnc53 := NB454_479.out; have hnb54 := NB479_475.out; have hnc54 := NB475_479.out; have hnb55 := NB479_476.out; have hnc55 := NB476_479.out; have hcz56_0 : w52.cell? ⟨gb479, 0, none⟩ = some (.int .i64 0) := (blk_cell BK479.out 0).trans rfl; have hcz56_1 : w52.cell? ⟨gb479, 1, none⟩ = some (.int .i64 0) := (blk_cell BK479.out 1).trans rfl; have hfz56_0 := blk_frozen BK479.out 0; have hfz56_1 := blk_frozen BK479.out 1) | ((with_reducible refine gate_store (t := 36) (p := 15) rfl ?_); refine store_event (t := 36) (p := 15) (v := ?vo_w57) (w1 := ((w52.setCell ⟨gb479, 0, none⟩ (.int .i64 0)).setCell ⟨gb479, 1, none⟩ (.int .i64 0))) ?hg ?ho ?hn ?hr ?_; (case ho => rfl); (case hg => rfl); (case hn => rfl); (case hr => first | (go_simp; done) | (go_simp; rfl)); intro w57 hw; have n0_ : Aside0 (Kd.S k46 46 w57 w.heap.size (fun _ => True) v471 t470) := ⟨(by rw [hw]; exact (by (with_reducible repeat (first | apply Kd.S_alloc | apply Kd.S_drewN | apply Kd.S_drew)); exact Kd.S_mono (Kd.S_far (p := ⟨gb479, 1, none⟩) (Kd.S_far (p := ⟨gb479, 0, none⟩) (Kd.S_types HO_11.out BK479.out (by decide)) (fun _ hk => hk.2) (.int .i64 0)) (fun _ hk => hk.2) (.int .i64 0)) (fun _ hk => trivial)))⟩; have n1_ : Aside0 (w57.heap[gb454]? = some (.cells #[.bool a0_0, .bool a0_1, .int .u32 a0_2, .int .u32 a0_3] 24 (0, 0))) := ⟨(by rw [hw]; exact (by (with_reducible repeat (first | refine blk_drewN ?_ _ | refine blk_drew ?_ | refine blk_alloc ?_ _)); refine blk_far ?_ NB454_479.out _; (with_reducible repeat (first | refine blk_drewN ?_ _ | refine blk_drew ?_ | refine blk_alloc ?_ _)); refine blk_far ?_ NB454_479.out _; (with_reducible repeat (first | refine blk_drewN ?_ _ | refine blk_drew ?_ | refine blk_alloc ?_ _)); exact BK454.out))⟩; have n2_ : Aside0 (w57.heap[gb475]? = some (.cells #[.bool t466, .bool t467, .int .u32 t468, .int .u32 t469] 24 (0, 0))) := ⟨(by rw [hw]; exact (by (with_reducible repeat (first | refine blk_drewN ?_ _ | refine blk_drew ?_ | refine blk_alloc ?_ _)); refine blk_far ?_ NB475_479.out _; (with_reducible repeat (first | refine blk_drewN ?_ _ | refine blk_drew ?_ | refine blk_alloc ?_ _)); refine blk_far ?_ NB475_479.out _; (with_reducible repeat (first | refine blk_drewN ?_ _ | refine blk_drew ?_ | refine blk_alloc ?_ _)); exact BK475.out))⟩; have n3_ : Aside0 (w57.heap[gb476]? = some (.cells #[.int .i64 t473, .int .i64 t474] 36 (0, 0))) := ⟨(by rw [hw]; exact (by (with_reducible repeat (first | refine blk_drewN ?_ _ | refine blk_drew ?_ | refine blk_alloc ?_ _)); refine blk_far ?_ NB476_479.out _; (with_reducible repeat (first | refine blk_drewN ?_ _ | refine blk_drew ?_ | refine blk_alloc ?_ _)); refine blk_far ?_ NB476_479.out _; (with_reducible repeat (first | refine blk_drewN ?_ _ | refine blk_drew ?_ | refine blk_alloc ?_ _)); exact BK476.out))⟩; have n4_ : Aside0 (w57.heap[gb479]? = some (.cells #[.int .i64 0, .int .i64 0] 36 (0, 0))) := ⟨(by rw [hw]; exact (by (with_reducible repeat (first | refine blk_drewN ?_ _ | refine blk_drew ?_ | refine blk_alloc ?_ _)); refine blk_put (cs := #[.int .i64 0, .int .i64 0]) ?_ 1 _ rfl; (with_reducible repeat (first | refine blk_drewN ?_ _ | refine blk_drew ?_ | refine blk_alloc ?_ _)); refine blk_put (cs := #[.int .i64 0, .int .i64 0]) ?_ 0 _ rfl; (with_reducible repeat (first | refine blk_drewN ?_ _ | refine blk_drew ?_ | refine blk_alloc ?_ _)); exact BK479.out))⟩; have n5_ : Aside0 (Below w.heap.size w w57) := ⟨(by rw [hw]; exact (by repeat (first | (with_reducible first | exact HB.out | apply below_alloc | apply pw_below_drewN | apply below_drew1 | refine below_set ?_ GE454.out | refine below_set ?_ GE475.out | refine below_set ?_ GE476.out | refine below_set ?_ GE479.out) | exact HB.out)))⟩; clear hw; clear HO_11; clear BK454; clear BK475; clear BK476; clear BK479; clear HB; have HO_11 := n0_; have BK454 := n1_; have BK475 := n2_; have BK476 := n3_; have BK479 := n4_; have HB := n5_; clear n0_ n1_ n2_ n3_ n4_ n5_; have hcz58_0 : w57.cell? ⟨gb479, 0, none⟩ = some (.int .i64 0) := (blk_cell BK479.out 0).trans rfl; have hcz58_1 : w57.cell? ⟨gb479, 1, none⟩ = some (.int .i64 0) := (blk_cell BK479.out 1).trans rfl; have hfz58_0 := blk_frozen BK479.out 0; have hfz58_1 := blk_frozen BK479.out 1) | ((with_reducible refine gate_store (t := 36) (p := 15) rfl ?_); refine store_event (t := 36) (p := 15) (v := ?vo_w59) (w1 := ((w57.setCell ⟨gb479, 0, none⟩ (.int .i64 x13_26)).setCell ⟨gb479, 1, none⟩ (.int .i64 2))) ?hg ?ho ?hn ?hr ?_; (case ho => rfl); (case hg => rfl); (case hn => rfl); (case hr => first | (go_simp; done) | (go_simp; rfl)); intro w59 hw; have n0_ : Aside0 (Kd.S k46 46 w59 w.heap.size (fun _ => True) v471 t470) := ⟨(by rw [hw]; exact (by (with_reducible repeat (first | apply Kd.S_alloc | apply Kd.S_drewN | apply Kd.S_drew)); exact Kd.S_mono (Kd.S_far (p := ⟨gb479, 1, none⟩) (Kd.S_far (p := ⟨gb479, 0, none⟩) (Kd.S_types HO_11.out BK479.out (by decide)) (fun _ hk => hk.2) (.int .i64 x13_26)) (fun _ hk => hk.2) (.int .i64 2)) (fun _ hk => trivial)))⟩; have n1_ : Aside0 (w59.heap[gb454]? = some (.cells #[.bool a0_0, .bool a0_1, .int .u32 a0_2, .int .u32 a0_3] 24 (0, 0))) := ⟨(by rw [hw]; exact (by (with_reducible repeat (first | refine blk_drewN ?_ _ | refine blk_drew ?_ | refine blk_alloc ?_ _)); refine blk_far ?_ NB454_479.out _; (with_reducible repeat (first | refine blk_drewN ?_ _ | refine blk_drew ?_ | refine blk_alloc ?_ _)); refine blk_far ?_ NB454_479.out _; (with_reducible repeat (first | refine blk_drewN ?_ _ | refine blk_drew ?_ | refine blk_alloc ?_ _)); exact BK454.out))⟩; have n2_ : Aside0 (w59.heap[gb475]? = some (.cells #[.bool t466, .bool t467, .int .u32 t468, .int .u32 t469] 24 (0, 0))) := ⟨(by rw [hw]; exact (by (with_reducible repeat (first | refine blk_drewN ?_ _ | refine blk_drew ?_ | refine blk_alloc ?_ _)); refine blk_far ?_ NB475_479.out _; (with_reducible repeat (first | refine blk_drewN ?_ _ | refine blk_drew ?_ | refine blk_alloc ?_ _)); refine blk_far ?_ NB475_479.out _; (with_reducible repeat (first | refine blk_drewN ?_ _ | refine blk_drew ?_ | refine blk_alloc ?_ _)); exact BK475.out))⟩; have n3_ : Aside0 (w59.heap[gb476]? = some (.cells #[.int .i64 t473, .int .i64 t474] 36 (0, 0))) := ⟨(by rw [hw]; exact (by (with_reducible repeat (first | refine blk_drewN ?_ _ | refine blk_drew ?_ | refine blk_alloc ?_ _)); refine blk_far ?_ NB476_479.out _; (with_reducible repeat (first | refine blk_drewN ?_ _ | refine blk_drew ?_ | refine blk_alloc ?_ _)); refine blk_far ?_ NB476_479.out _; (with_reducible repeat (first | refine blk_drewN ?_ _ | refine blk_drew ?_ | refine blk_alloc ?_ _)); exact BK476.out))⟩; have n4_ : Aside0 (w59.heap[gb479]? = some (.cells #[.int .i64 x13_26, .int .i64 2] 36 (0, 0))) := ⟨(by rw [hw]; exact (by (with_reducible repeat (first | refine blk_drewN ?_ _ | refine blk_drew ?_ | refine blk_alloc ?_ _)); refine blk_put (cs := #[.int .i64 x13_26, .int .i64 0]) ?_ 1 _ rfl; (with_reducible repeat (first | refine blk_drewN ?_ _ | refine blk_drew ?_ | refine blk_alloc ?_ _)); refine blk_put (cs := #[.int .i64 0, .int .i64 0]) ?_ 0 _ rfl; (with_reducible repeat (first | refine blk_drewN ?_ _ | refine blk_drew ?_ | refine blk_alloc ?_ _)); exact BK479.out))⟩; have n5_ : Aside0 (Below w.heap.size w w59) := ⟨(by rw [hw]; exact (by repeat (first | (with_reducible first | exact HB.out | apply below_alloc | apply pw_below_drewN | apply below_drew1 | refine below_set ?_ GE454.out | refine below_set ?_ GE475.out | refine below_set ?_ GE476.out | refine below_set ?_ GE479.out) | exact HB.out)))⟩; clear hw; clear HO_11; clear BK454; clear BK475; clear BK476; clear BK479; clear HB; have HO_11 := n0_; have BK454 := n1_; have BK475 := n2_; have BK476 := n3_; have BK479 := n4_; have HB := n5_; clear n0_ n1_ n2_ n3_ n4_ n5_; have q60 : (x14_26 : Int) ≤ ((l1.length : Int) : Int) := of_decide_eq_true (by first | (with_reducible assumption) | assumption); obtain ⟨i060, hi060, _, hsz60, _⟩ := info_parts info46; have hroom60 : l1.length ≤ c1 := HC1.out; have hC60 : Kd.C k46 _ A1 l1.length l1 := HR1.out; have hcut60 := cut_to (P := Try.prog) 25 46 .i64 Try.underlying25 hi060 A1 l1.length c1 x14_26 (of_decide_eq_true (by first | (with_reducible assumption) | assumption)) q60 hroom60; have hr60 := Kd.C_take (m := (x14_26 : Int).toNat) hC60 (by omega); have hy60 : y480.length = (x14_26 : Int).toNat := (by rw [Ny480.out, List.length_take]; omega); rw [← Ny480.out] at hr60; rw [← hy60] at hcut60; have HR483 := Aside0.mk hr60; have HC483 := Aside0.mk (show y480.length ≤ c1 from by omega); clear hr60 hC60 hroom60 hi060 hsz60; have KY60 := Aside0.mk hy60; clear hy60; replace q60 := eq_true q60; obtain ⟨Ao61, co61, eo61⟩ := Kd.S_slice HO_11.out; subst eo61) | ((with_reducible refine gate_callee (f := 23) rfl ?_); refine goesL_ (some 100) rfl rfl Try.func23 (by kernel_rfl) rfl #[.slice Ao61 t470.length co61, .slice A1 y480.length c1] rfl (by (try simp only [List.map_toArray, List.map_cons, List.map_nil]); first | done | rfl | (simp only [List.length_drop, List.length_take]; rfl)) ?_; (with_reducible refine (umpireref09_Same.calls kj26 _ _ t470 _ _ y480 true _ ?side1 ?side2 ?side3 ?side4 A50.out).mono ?_); (case side1 => repeat (first | exact (Kd.S_reads' HO_11.out).2.2 | (with_reducible refine Kd.C_alloc ?_ _) | (with_reducible refine Kd.C_drewN ?_ _) | (with_reducible refine Kd.C_drew ?_))); (case side2 => exact (Kd.S_reads' HO_11.out).2.1); (case side3 => repeat (first | exact (Kd.C_below HR483.out HB.out) | (with_reducible refine Kd.C_alloc ?_ _) | (with_reducible refine Kd.C_drewN ?_ _) | (with_reducible refine Kd.C_drew ?_))); (case side4 => exact HC483.out); rintro e w' ⟨rfl, ⟨nd, rfl⟩⟩; refine ⟨_, rfl, ?_⟩; have hnb62 := NB476_454.out; have hnc62 := NB454_476.out; have hnb63 := NB476_475.out; have hnc63 := NB475_476.out; have hcz64_0 : w59.cell? ⟨gb476, 0, none⟩ = some (.int .i64 t473) := (blk_cell BK476.out 0).trans rfl; have hcz64_1 : w59.cell? ⟨gb476, 1, none⟩ = some (.int .i64 t474) := (blk_cell BK476.out 1).trans rfl; have hfz64_0 := blk_frozen BK476.out 0; have hfz64_1 := blk_frozen BK476.out 1; have hcz65_0 : w59.cell? ⟨gb479, 0, none⟩ = some (.int .i64 x13_26) := (blk_cell BK479.out 0).trans rfl; have hcz65_1 : w59.cell? ⟨gb479, 1, none⟩ = some (.int .i64 2) := (blk_cell BK479.out 1).trans rfl; have hfz65_0 := blk_frozen BK479.out 0; have hfz65_1 := blk_frozen BK479.out 1))
                                  go_ret
                                  exact ⟨by first | rfl | (simp [errW_none, errW_some] <;> rfl) | (simp only [← hji23]; first | rfl | (simp [errW_none, errW_some] <;> rfl)) | (simp [*, errW_none, errW_some] <;> rfl), by repeat (first | (with_reducible first | exact HB.out | apply below_alloc | apply pw_below_drewN | apply below_drew1 | refine below_set ?_ GE454.out | refine below_set ?_ GE475.out | refine below_set ?_ GE476.out | refine below_set ?_ GE479.out) | exact HB.out)⟩
                                · replace c51 := Bool.eq_false_iff.mpr c51
                                  subst c51
                                  have H1 : (none) = some r := by rw [if_neg (show ¬ (false = true) by decide)] at H; exact H
                                  clear H
                                  have H := H1
                                  clear H1
                                  exact absurd H (by simp)
                              · rw [if_neg c49] at H
                                exact absurd H (by simp)
                            · rw [if_neg c48] at H
                              exact absurd H (by simp)
                          · rw [if_neg c47] at H
                            have c47b0 : decide (x13_26 < ji23) = false := decide_eq_false c47
                            clear c47
                            by_cases c66 : 0 ≤ x14_26
                            · rw [if_pos c66] at H
                              have c66b0 := eq_true c66
                              have c66b1 : decide (0 ≤ x14_26) = true := decide_eq_true c66
                              clear c66
                              by_cases c67 : x14_26 ≤ (l1.length : Int)
                              · rw [if_pos c67] at H
                                have c67b0 := eq_true c67
                                have c67b1 : decide (x14_26 ≤ (l1.length : Int)) = true := decide_eq_true c67
                                clear c67
                                obtain ⟨y485, hy485⟩ : ∃ y_ : List (S46), y_ = (l1.take (x14_26 : Int).toNat) := ⟨_, rfl⟩
                                replace H : ((umpireref09_Same.f kj26 t470 y485).bind fun t489 => (if t489 = true then (some (t473 == 0 && (t474 == 0))) else (none))) = some r := by first | (rw [hy485]; with_reducible exact H) | (have H2_ := (Option.bind_some _ _).symm.trans H; rw [hy485]; with_reducible exact H2_) | (have H2_ := (Option.bind_some _ _).symm.trans H; with_reducible exact H2_) | with_reducible exact H | (rw [hy485]; exact H) | exact H
                                have Ny485 := Aside0.mk hy485
                                clear hy485
                                replace H := Option.bind_eq_some_iff.mp H
                                obtain ⟨t489, A680, H⟩ := H
                                replace H : (if t489 = true then (some (t473 == 0 && (t474 == 0))) else (none)) = some r := H
                                have A68 := Aside0.mk A680
                                clear A680
                                by_cases c69 : t489 = true
                                · subst c69
                                  have H1 : (some (t473 == 0 && (t474 == 0))) = some r := by rw [if_pos rfl] at H; exact H
                                  clear H
                                  have H := H1
                                  clear H1
                                  obtain rfl := Option.some.inj H
                                  go_wp2_with (first | ((with_reducible refine gate_dst (N := 15) rfl ?_); (try (refine gate_guard (by rfl) ?_; dsimp only)); refine box_event ?hg (N := 15) ?hd (cs := #[.int .i64 0, .int .i64 0]) (t := 36) ?hr ?_; (case hd => rfl); (case hg => rfl); (case hr => first | (go_simp; done) | (go_simp; rfl)); intro gb479 hg w70 hbox hb; have n0_ := Aside0.mk (Kd.S_below (by (with_reducible repeat (first | apply Kd.S_alloc | apply Kd.S_drewN | apply Kd.S_drew)); exact HO_11.out) hb); have n1_ := Aside0.mk (blk_below (g := gb454) (o := .cells #[.bool a0_0, .bool a0_1, .int .u32 a0_2, .int .u32 a0_3] 24 (0, 0)) (by (with_reducible repeat (first | refine blk_drewN ?_ _ | refine blk_drew ?_ | refine blk_alloc ?_ _)); exact BK454.out) hb); have n2_ := Aside0.mk (blk_below (g := gb475) (o := .cells #[.bool t466, .bool t467, .int .u32 t468, .int .u32 t469] 24 (0, 0)) (by (with_reducible repeat (first | refine blk_drewN ?_ _ | refine blk_drew ?_ | refine blk_alloc ?_ _)); exact BK475.out) hb); have n3_ := Aside0.mk (blk_below (g := gb476) (o := .cells #[.int .i64 t473, .int .i64 t474] 36 (0, 0)) (by (with_reducible repeat (first | refine blk_drewN ?_ _ | refine blk_drew ?_ | refine blk_alloc ?_ _)); exact BK476.out) hb); have n4_ := Aside0.mk (below_step (by repeat (first | (with_reducible first | exact HB.out | apply below_alloc | apply pw_below_drewN | apply below_drew1 | refine below_set ?_ GE454.out | refine below_set ?_ GE475.out | refine below_set ?_ GE476.out) | exact HB.out)) hb); have n5_ := Aside0.mk (hbox); have n6_ := Aside0.mk ((by rw [hg]; exact (below_size (by repeat (first | (with_reducible first | exact HB.out | apply below_alloc | apply pw_below_drewN | apply below_drew1 | refine below_set ?_ GE454.out | refine below_set ?_ GE475.out | refine below_set ?_ GE476.out) | exact HB.out))) : w.heap.size ≤ gb479)); have n7_ := Aside0.mk ((by rw [hg]; exact (below_size (by repeat (first | (with_reducible first | exact HB.out | apply below_alloc | apply pw_below_drewN | apply below_drew1 | refine below_set ?_ GE454.out | refine below_set ?_ GE475.out | refine below_set ?_ GE476.out) | exact HB.out))) : w.heap.size ≤ gb479)); have n8_ := Aside0.mk ((by rw [hg]; exact Nat.ne_of_lt (blk_lt (g := gb454) (o := .cells #[.bool a0_0, .bool a0_1, .int .u32 a0_2, .int .u32 a0_3] 24 (0, 0)) (by (with_reducible repeat (first | refine blk_drewN ?_ _ | refine blk_drew ?_ | refine blk_alloc ?_ _)); exact BK454.out)) : gb454 ≠ gb479)); have n9_ := Aside0.mk ((by rw [hg]; exact Nat.ne_of_gt (blk_lt (g := gb454) (o := .cells #[.bool a0_0, .bool a0_1, .int .u32 a0_2, .int .u32 a0_3] 24 (0, 0)) (by (with_reducible repeat (first | refine blk_drewN ?_ _ | refine blk_drew ?_ | refine blk_alloc ?_ _)); exact BK454.out)) : gb479 ≠ gb454)); have n10_ := Aside0.mk ((by rw [hg]; exact Nat.ne_of_lt (blk_lt (g := gb475) (o := .cells #[.bool t466, .bool t467, .int .u32 t468, .int .u32 t469] 24 (0, 0)) (by (with_reducible repeat (first | refine blk_drewN ?_ _ | refine blk_drew ?_ | refine blk_alloc ?_ _)); exact BK475.out)) : gb475 ≠ gb479)); have n11_ := Aside0.mk ((by rw [hg]; exact Nat.ne_of_gt (blk_lt (g := gb475) (o := .cells #[.bool t466, .bool t467, .int .u32 t468, .int .u32 t469] 24 (0, 0)) (by (with_reducible repeat (first | refine blk_drewN ?_ _ | refine blk_drew ?_ | refine blk_alloc ?_ _)); exact BK475.out)) : gb479 ≠ gb475)); have n12_ := Aside0.mk ((by rw [hg]; exact Nat.ne_of_lt (blk_lt (g := gb476) (o := .cells #[.int .i64 t473, .int .i64 t474] 36 (0, 0)) (by (with_reducible repeat (first | refine blk_drewN ?_ _ | refine blk_drew ?_ | refine blk_alloc ?_ _)); exact BK476.out)) : gb476 ≠ gb479)); have n13_ := Aside0.mk ((by rw [hg]; exact Nat.ne_of_gt (blk_lt (g := gb476) (o := .cells #[.int .i64 t473, .int .i64 t474] 36 (0, 0)) (by (with_reducible repeat (first | refine blk_drewN ?_ _ | refine blk_drew ?_ | refine blk_alloc ?_ _)); exact BK476.out)) : gb479 ≠ gb476)); clear HO_11; clear BK454; clear BK475; clear BK476; clear HB; have HO_11 := n0_; have BK454 := n1_; have BK475 := n2_; have BK476 := n3_; have HB := n4_; have BK479 := n5_; have GW479 := n6_; have GE479 := n7_; have NB454_479 := n8_; have NB479_454 := n9_; have NB475_479 := n10_; have NB479_475 := n11_; have NB476_479 := n12_; have NB479_476 := n13_; clear n0_ n1_ n2_ n3_ n4_ n5_ n6_ n7_ n8_ n9_ n10_ n11_ n12_ n13_; clear hb hbox hg; have hnb71 := NB479_454.out; have hnc71 := NB454_479.out; have hnb72 := NB479_475.out; have hnc72 := NB475_479.out; have hnb73 := NB479_476.out; have hnc73 := NB476_479.out; have hcz74_0 : w70.cell? ⟨gb479, 0, none⟩ = some (.int .i64 0) := (blk_cell BK479.out 0).trans rfl; have hcz74_1 : w70.cell? ⟨gb479, 1, none⟩ = some (.int .i64 0) := (blk_cell BK479.out 1).trans rfl; have hfz74_0 := blk_frozen BK479.out 0; have hfz74_1 := blk_frozen BK479.out 1) | ((with_reducible refine gate_store (t := 36) (p := 15) rfl ?_); refine store_event (t := 36) (p := 15) (v := ?vo_w75) (w1 := ((w70.setCell ⟨gb479, 0, none⟩ (.int .i64 0)).setCell ⟨gb479, 1, none⟩ (.int .i64 0))) ?hg ?ho ?hn ?hr ?_; (case ho => rfl); (case hg => rfl); (case hn => rfl); (case hr => first | (go_simp; done) | (go_simp; rfl)); intro w75 hw; have n0_ : Aside0 (Kd.S k46 46 w75 w.heap.size (fun _ => True) v471 t470) := ⟨(by rw [hw]; exact (by (with_reducible repeat (first | apply Kd.S_alloc | apply Kd.S_drewN | apply Kd.S_drew)); exact Kd.S_mono (Kd.S_far (p := ⟨gb479, 1, none⟩) (Kd.S_far (p := ⟨gb479, 0, none⟩) (Kd.S_types HO_11.out BK479.out (by decide)) (fun _ hk => hk.2) (.int .i64 0)) (fun _ hk => hk.2) (.int .i64 0)) (fun _ hk => trivial)))⟩; have n1_ : Aside0 (w75.heap[gb454]? = some (.cells #[.bool a0_0, .bool a0_1, .int .u32 a0_2, .int .u32 a0_3] 24 (0, 0))) := ⟨(by rw [hw]; exact (by (with_reducible repeat (first | refine blk_drewN ?_ _ | refine blk_drew ?_ | refine blk_alloc ?_ _)); refine blk_far ?_ NB454_479.out _; (with_reducible repeat (first | refine blk_drewN ?_ _ | refine blk_drew ?_ | refine blk_alloc ?_ _)); refine blk_far ?_ NB454_479.out _; (with_reducible repeat (first | refine blk_drewN ?_ _ | refine blk_drew ?_ | refine blk_alloc ?_ _)); exact BK454.out))⟩; have n2_ : Aside0 (w75.heap[gb475]? = some (.cells #[.bool t466, .bool t467, .int .u32 t468, .int .u32 t469] 24 (0, 0))) := ⟨(by rw [hw]; exact (by (with_reducible repeat (first | refine blk_drewN ?_ _ | refine blk_drew ?_ | refine blk_alloc ?_ _)); refine blk_far ?_ NB475_479.out _; (with_reducible repeat (first | refine blk_drewN ?_ _ | refine blk_drew ?_ | refine blk_alloc ?_ _)); refine blk_far ?_ NB475_479.out _; (with_reducible repeat (first | refine blk_drewN ?_ _ | refine blk_drew ?_ | refine blk_alloc ?_ _)); exact BK475.out))⟩; have n3_ : Aside0 (w75.heap[gb476]? = some (.cells #[.int .i64 t473, .int .i64 t474] 36 (0, 0))) := ⟨(by rw [hw]; exact (by (with_reducible repeat (first | refine blk_drewN ?_ _ | refine blk_drew ?_ | refine blk_alloc ?_ _)); refine blk_far ?_ NB476_479.out _; (with_reducible repeat (first | refine blk_drewN ?_ _ | refine blk_drew ?_ | refine blk_alloc ?_ _)); refine blk_far ?_ NB476_479.out _; (with_reducible repeat (first | refine blk_drewN ?_ _ | refine blk_drew ?_ | refine blk_alloc ?_ _)); exact BK476.out))⟩; have n4_ : Aside0 (w75.heap[gb479]? = some (.cells #[.int .i64 0, .int .i64 0] 36 (0, 0))) := ⟨(by rw [hw]; exact (by (with_reducible repeat (first | refine blk_drewN ?_ _ | refine blk_drew ?_ | refine blk_alloc ?_ _)); refine blk_put (cs := #[.int .i64 0, .int .i64 0]) ?_ 1 _ rfl; (with_reducible repeat (first | refine blk_drewN ?_ _ | refine blk_drew ?_ | refine blk_alloc ?_ _)); refine blk_put (cs := #[.int .i64 0, .int .i64 0]) ?_ 0 _ rfl; (with_reducible repeat (first | refine blk_drewN ?_ _ | refine blk_drew ?_ | refine blk_alloc ?_ _)); exact BK479.out))⟩; have n5_ : Aside0 (Below w.heap.size w w75) := ⟨(by rw [hw]; exact (by repeat (first | (with_reducible first | exact HB.out | apply below_alloc | apply pw_below_drewN | apply below_drew1 | refine below_set ?_ GE454.out | refine below_set ?_ GE475.out | refine below_set ?_ GE476.out | refine below_set ?_ GE479.out) | exact HB.out)))⟩; clear hw; clear HO_11; clear BK454; clear BK475; clear BK476; clear BK479; clear HB; have HO_11 := n0_; have BK454 := n1_; have BK475 := n2_; have BK476 := n3_; have BK479 := n4_; have HB := n5_; clear n0_ n1_ n2_ n3_ n4_ n5_; have q76 : (x14_26 : Int) ≤ ((l1.length : Int) : Int) := of_decide_eq_true (by first | (with_reducible assumption) | assumption); obtain ⟨i076, hi076, _, hsz76, _⟩ := info_parts info46; have hroom76 : l1.length ≤ c1 := HC1.out; have hC76 : Kd.C k46 _ A1 l1.length l1 := HR1.out; have hcut76 := cut_to (P := Try.prog) 25 46 .i64 Try.underlying25 hi076 A1 l1.length c1 x14_26 (of_decide_eq_true (by first | (with_reducible assumption) | assumption)) q76 hroom76; have hr76 := Kd.C_take (m := (x14_26 : Int).toNat) hC76 (by omega); have hy76 : y485.length = (x14_26 : Int).toNat := (by rw [Ny485.out, List.length_take]; omega); rw [← Ny485.out] at hr76; rw [← hy76] at hcut76; have HR488 := Aside0.mk hr76; have HC488 := Aside0.mk (show y485.length ≤ c1 from by omega); clear hr76 hC76 hroom76 hi076 hsz76; have KY76 := Aside0.mk hy76; clear hy76; replace q76 := eq_true q76; obtain ⟨Ao77, co77, eo77⟩ := Kd.S_slice HO_11.out; subst eo77) | ((with_reducible refine gate_callee (f := 23) rfl ?_); refine goesL_ (some 100) rfl rfl Try.func23 (by kernel_rfl) rfl #[.slice Ao77 t470.length co77, .slice A1 y485.length c1] rfl (by (try simp only [List.map_toArray, List.map_cons, List.map_nil]); first | done | rfl | (simp only [List.length_drop, List.length_take]; rfl)) ?_; (with_reducible refine (umpireref09_Same.calls kj26 _ _ t470 _ _ y485 true _ ?side1 ?side2 ?side3 ?side4 A68.out).mono ?_); (case side1 => repeat (first | exact (Kd.S_reads' HO_11.out).2.2 | (with_reducible refine Kd.C_alloc ?_ _) | (with_reducible refine Kd.C_drewN ?_ _) | (with_reducible refine Kd.C_drew ?_))); (case side2 => exact (Kd.S_reads' HO_11.out).2.1); (case side3 => repeat (first | exact (Kd.C_below HR488.out HB.out) | (with_reducible refine Kd.C_alloc ?_ _) | (with_reducible refine Kd.C_drewN ?_ _) | (with_reducible refine Kd.C_drew ?_))); (case side4 => exact HC488.out); rintro e w' ⟨rfl, ⟨nd, rfl⟩⟩; refine ⟨_, rfl, ?_⟩; have hnb78 := NB476_454.out; have hnc78 := NB454_476.out; have hnb79 := NB476_475.out; have hnc79 := NB475_476.out; have hcz80_0 : w75.cell? ⟨gb476, 0, none⟩ = some (.int .i64 t473) := (blk_cell BK476.out 0).trans rfl; have hcz80_1 : w75.cell? ⟨gb476, 1, none⟩ = some (.int .i64 t474) := (blk_cell BK476.out 1).trans rfl; have hfz80_0 := blk_frozen BK476.out 0; have hfz80_1 := blk_frozen BK476.out 1; have hcz81_0 : w75.cell? ⟨gb479, 0, none⟩ = some (.int .i64 0) := (blk_cell BK479.out 0).trans rfl; have hcz81_1 : w75.cell? ⟨gb479, 1, none⟩ = some (.int .i64 0) := (blk_cell BK479.out 1).trans rfl; have hfz81_0 := blk_frozen BK479.out 0; have hfz81_1 := blk_frozen BK479.out 1))
                                  go_ret
                                  exact ⟨by first | rfl | (simp [errW_none, errW_some] <;> rfl) | (simp only [← hji23]; first | rfl | (simp [errW_none, errW_some] <;> rfl)) | (simp [*, errW_none, errW_some] <;> rfl), by repeat (first | (with_reducible first | exact HB.out | apply below_alloc | apply pw_below_drewN | apply below_drew1 | refine below_set ?_ GE454.out | refine below_set ?_ GE475.out | refine below_set ?_ GE476.out | refine below_set ?_ GE479.out) | exact HB.out)⟩
                                · replace c69 := Bool.eq_false_iff.mpr c69
                                  subst c69
                                  have H1 : (none) = some r := by rw [if_neg (show ¬ (false = true) by decide)] at H; exact H
                                  clear H
                                  have H := H1
                                  clear H1
                                  exact absurd H (by simp)
                              · rw [if_neg c67] at H
                                exact absurd H (by simp)
                            · rw [if_neg c66] at H
                              exact absurd H (by simp)
                  · rw [if_neg c25] at H
                    exact absurd H (by simp)
                · rw [if_neg c24] at H
                  exact absurd H (by simp)

end Go.Proofs.Ytnjimecjpnjojaa.Print
