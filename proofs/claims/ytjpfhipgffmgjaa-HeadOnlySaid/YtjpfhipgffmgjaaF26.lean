-- laid by this session's own program (wip/mkprint.sh) for this claim
import Derived.Test.Ytjpfhipgffmgjaa0
namespace Go.Proofs.Ytjpfhipgffmgjaa.Print
open Go.RowKit Go.Proofs.YtjpfhipgffmgjaaW.PrintWords Go.Proofs.YtjpfhipgffmgjaaW.PrintLast Go.Proofs.YtjpfhipgffmgjaaW.PrintMore
attribute [local go_sem] max2_int min2_int max_two min_two max_three min_three max_four min_four   -- for this text's walks alone
set_option linter.unusedVariables false
set_option linter.unusedSimpArgs false

/-! ### umpireref08_Read: function 26 -/
mutual
def umpireref08_Read.j0 : Nat → List Int → Int → Bool → Int → Int → Option (Int × Int × Int)
  | 0, _, _, _, _, _ => none
  | k + 1, x0, x5, x17, x442000, x442001 => if x17 = true then (if (x0.length : Int) < 2 then (some (x442000, x442001, 2)) else (if 1 < (x0.length : Int) then (if (rd x0 1) = 3 then (umpireref08_Read.j1 k x0 2 x442000 x442001) else (some (x442000, x442001, 3))) else (none))) else (umpireref08_Read.j1 k x0 x5 x442000 x442001)
def umpireref08_Read.j1 : Nat → List Int → Int → Int → Int → Option (Int × Int × Int)
  | 0, _, _, _, _ => none
  | k + 1, x0, x5, x442000, x442001 => if x5 ≥ (x0.length : Int) then (some (x442000, x442001, 2)) else (if 0 ≤ x5 then (if x5 < (x0.length : Int) then (if (Int.tmod (wrap64 (rd x0 x5)) 2) = 1 then (if (wrap64 (rd x0 x5)) = 255 then (some (x442000, x442001, 3)) else (some (wrap64 (rd x0 x5), wrap64 (x5 + 1), 0))) else (if (wrap64 (x5 + 1)) ≥ (x0.length : Int) then (some (x442000, x442001, 2)) else (if 0 ≤ (wrap64 (x5 + 1)) then (if (wrap64 (x5 + 1)) < (x0.length : Int) then (if (Int.tmod (wrap64 (rd x0 (wrap64 (x5 + 1)))) 2) = 0 then (some (x442000, x442001, 3)) else (if (wrap64 (rd x0 x5)) = 0 then (if (wrap64 (rd x0 (wrap64 (x5 + 1)))) = 255 then (some (x442000, x442001, 3)) else (some (wrap64 ((wrap64 (256 * (wrap64 (rd x0 x5)))) + (wrap64 (rd x0 (wrap64 (x5 + 1))))), wrap64 (x5 + 2), 0))) else (some (wrap64 ((wrap64 (256 * (wrap64 (rd x0 x5)))) + (wrap64 (rd x0 (wrap64 (x5 + 1))))), wrap64 (x5 + 2), 0)))) else (none)) else (none)))) else (none)) else (none))
end
def umpireref08_Read.f (k : Nat) (l0 : List Int) : Option (Int × Int × Int) := if (l0.length : Int) > 0 then (if 0 < (l0.length : Int) then (umpireref08_Read.j0 k l0 0 ((rd l0 0) == 255) 0 0) else (none)) else (umpireref08_Read.j0 k l0 0 false 0 0)
theorem umpireref08_Read.mono_l : ∀ k, (∀ y0 y1 y2 y3 y4, LeO (umpireref08_Read.j0 k y0 y1 y2 y3 y4) (umpireref08_Read.j0 (k + 1) y0 y1 y2 y3 y4)) ∧ (∀ y0 y1 y2 y3, LeO (umpireref08_Read.j1 k y0 y1 y2 y3) (umpireref08_Read.j1 (k + 1) y0 y1 y2 y3))
  | 0 => ⟨fun _ _ _ _ _ r h => by simp [umpireref08_Read.j0] at h, fun _ _ _ _ r h => by simp [umpireref08_Read.j1] at h⟩
  | k + 1 => by
    obtain ⟨ih0, ih1⟩ := umpireref08_Read.mono_l k
    refine ⟨?_, ?_⟩
    · intro y0 y1 y2 y3 y4
      unfold umpireref08_Read.j0
      repeat' first
      | (with_reducible exact ih0 _ _ _ _ _)
      | (with_reducible exact ih1 _ _ _ _)
      | (with_reducible exact LeO.refl _)
      | (with_reducible exact LeO.none _)
      | (with_reducible refine LeO.ite ?_ ?_)
      | (with_reducible refine LeO.bind ?_ (fun _ => ?_))
      | exact ih0 _ _ _ _ _
      | exact ih1 _ _ _ _
      | exact LeO.none _
      | refine LeO.ite ?_ ?_
      | refine LeO.bind ?_ (fun _ => ?_)
    · intro y0 y1 y2 y3
      unfold umpireref08_Read.j1
      repeat' first
      | (with_reducible exact ih0 _ _ _ _ _)
      | (with_reducible exact ih1 _ _ _ _)
      | (with_reducible exact LeO.refl _)
      | (with_reducible exact LeO.none _)
      | (with_reducible refine LeO.ite ?_ ?_)
      | (with_reducible refine LeO.bind ?_ (fun _ => ?_))
      | exact ih0 _ _ _ _ _
      | exact ih1 _ _ _ _
      | exact LeO.none _
      | refine LeO.ite ?_ ?_
      | refine LeO.bind ?_ (fun _ => ?_)
theorem umpireref08_Read.mono : ∀ a0 k, LeO (umpireref08_Read.f k a0) (umpireref08_Read.f (k + 1) a0) := by
  intro a0 k
  obtain ⟨ih0, ih1⟩ := umpireref08_Read.mono_l k
  unfold umpireref08_Read.f
  repeat' first
      | (with_reducible exact ih0 _ _ _ _ _)
      | (with_reducible exact ih1 _ _ _ _)
      | (with_reducible exact LeO.refl _)
      | (with_reducible exact LeO.none _)
      | (with_reducible refine LeO.ite ?_ ?_)
      | (with_reducible refine LeO.bind ?_ (fun _ => ?_))
      | exact ih0 _ _ _ _ _
      | exact ih1 _ _ _ _
      | exact LeO.none _
      | refine LeO.ite ?_ ?_
      | refine LeO.bind ?_ (fun _ => ?_)
set_option maxHeartbeats 8000000 in
set_option maxRecDepth 100000 in
theorem umpireref08_Read.calls (k : Nat) (A0 : Option Addr) (c0 : Nat) (l0 : List Int) (r1 : Int) (r2 : Int) (r3 : Int) (w : World) (hr0 : Kd.C (Kd.int .u8) w A0 l0.length l0) (hc0 : l0.length ≤ c0) (h : umpireref08_Read.f k l0 = some (r1, r2, r3)) :
    Calls Try.prog 26 #[.slice A0 l0.length c0] w fun e w' => e = .returned (.tuple #[.agg #[.int .i64 r1, .int .i64 r2], .int .i64 r3]) ∧ Below w.heap.size w w' := by
  have hu43 := Try.underlying43
  have HR0 := Aside0.mk hr0
  have HC0 := Aside0.mk hc0
  clear hr0 hc0
  have HB := Aside0.mk (Below.refl w.heap.size w)
  have H : (if (l0.length : Int) > 0 then (if 0 < (l0.length : Int) then (umpireref08_Read.j0 k l0 0 ((rd l0 0) == 255) 0 0) else (none)) else (umpireref08_Read.j0 k l0 0 false 0 0)) = some (r1, r2, r3) := h
  clear h
  have HC2 := Aside0.mk H
  clear H
  go_enter Try.func26, Try.ntmps26
  go_upto_region 3 with (first | ((with_reducible refine gate_dst (N := 2) rfl ?_); refine box_event ?hg (N := 2) ?hd (cs := #[.int .i64 0, .int .i64 0]) (t := 43) ?hr ?_; (case hd => rfl); (case hg => rfl); (case hr => first | (go_simp; done) | (go_simp; rfl)); intro gb440 hg w3 hbox hb; have n0_ := Aside0.mk (below_step (by repeat (first | (with_reducible first | exact HB.out | apply below_alloc | apply pw_below_drewN | apply below_drew1) | exact HB.out)) hb); have n1_ := Aside0.mk (hbox); have n2_ := Aside0.mk ((by rw [hg]; exact (below_size (by repeat (first | (with_reducible first | exact HB.out | apply below_alloc | apply pw_below_drewN | apply below_drew1) | exact HB.out))) : w.heap.size ≤ gb440)); have n3_ := Aside0.mk ((by rw [hg]; exact (below_size (by repeat (first | (with_reducible first | exact HB.out | apply below_alloc | apply pw_below_drewN | apply below_drew1) | exact HB.out))) : w.heap.size ≤ gb440)); clear HB; have HB := n0_; have BK440 := n1_; have GW440 := n2_; have GE440 := n3_; clear n0_ n1_ n2_ n3_; clear hb hbox hg) | ((with_reducible refine gate_dst (N := 4) rfl ?_); refine box_event ?hg (N := 4) ?hd (cs := #[.int .i64 0, .int .i64 0]) (t := 43) ?hr ?_; (case hd => rfl); (case hg => rfl); (case hr => first | (go_simp; done) | (go_simp; rfl)); intro gb441 hg w4 hbox hb; have n0_ := Aside0.mk (blk_below (g := gb440) (o := .cells #[.int .i64 0, .int .i64 0] 43 (0, 0)) (by (with_reducible repeat (first | refine blk_drewN ?_ _ | refine blk_drew ?_ | refine blk_alloc ?_ _)); exact BK440.out) hb); have n1_ := Aside0.mk (below_step (by repeat (first | (with_reducible first | exact HB.out | apply below_alloc | apply pw_below_drewN | apply below_drew1 | refine below_set ?_ GE440.out) | exact HB.out)) hb); have n2_ := Aside0.mk (hbox); have n3_ := Aside0.mk ((by rw [hg]; exact (below_size (by repeat (first | (with_reducible first | exact HB.out | apply below_alloc | apply pw_below_drewN | apply below_drew1 | refine below_set ?_ GE440.out) | exact HB.out))) : w.heap.size ≤ gb441)); have n4_ := Aside0.mk ((by rw [hg]; exact (below_size (by repeat (first | (with_reducible first | exact HB.out | apply below_alloc | apply pw_below_drewN | apply below_drew1 | refine below_set ?_ GE440.out) | exact HB.out))) : w.heap.size ≤ gb441)); have n5_ := Aside0.mk ((by rw [hg]; exact Nat.ne_of_lt (blk_lt (g := gb440) (o := .cells #[.int .i64 0, .int .i64 0] 43 (0, 0)) (by (with_reducible repeat (first | refine blk_drewN ?_ _ | refine blk_drew ?_ | refine blk_alloc ?_ _)); exact BK440.out)) : gb440 ≠ gb441)); have n6_ := Aside0.mk ((by rw [hg]; exact Nat.ne_of_gt (blk_lt (g := gb440) (o := .cells #[.int .i64 0, .int .i64 0] 43 (0, 0)) (by (with_reducible repeat (first | refine blk_drewN ?_ _ | refine blk_drew ?_ | refine blk_alloc ?_ _)); exact BK440.out)) : gb441 ≠ gb440)); clear BK440; clear HB; have BK440 := n0_; have HB := n1_; have BK441 := n2_; have GW441 := n3_; have GE441 := n4_; have NB440_441 := n5_; have NB441_440 := n6_; clear n0_ n1_ n2_ n3_ n4_ n5_ n6_; clear hb hbox hg; have hnb5 := NB441_440.out; have hnc5 := NB440_441.out; have hcz6_0 : w4.cell? ⟨gb441, 0, none⟩ = some (.int .i64 0) := (blk_cell BK441.out 0).trans rfl; have hcz6_1 : w4.cell? ⟨gb441, 1, none⟩ = some (.int .i64 0) := (blk_cell BK441.out 1).trans rfl; have hfz6_0 := blk_frozen BK441.out 0; have hfz6_1 := blk_frozen BK441.out 1))
  (try simp only [Act.put, List.setIfInBounds_toArray, List.set_cons_zero, List.set_cons_succ])
  go_cut [17] (fun v17 wc => ∃ (kq : Nat) (x17_1 : Bool), v17 = .bool x17_1 ∧ Aside0 (umpireref08_Read.j0 kq l0 0 x17_1 0 0 = some (r1, r2, r3)) ∧ Aside0 (kq ≤ k) ∧ Aside0 (wc.heap[gb440]? = some (.cells #[.int .i64 0, .int .i64 0] 43 (0, 0))) ∧ Aside0 (wc.heap[gb441]? = some (.cells #[.int .i64 0, .int .i64 0] 43 (0, 0))) ∧ Aside0 (Below w.heap.size w wc))
  case first =>
    have H := HC2.out
    clear HC2
    by_cases c7 : (l0.length : Int) > 0
    · rw [if_pos c7] at H
      have c7b0 : decide (0 < (l0.length : Int)) = true := decide_eq_true c7
      have c7b1 : decide (0 < l0.length) = true := decide_eq_true (by omega)
      clear c7
      (first | rw [c7b0] | (simp only [i64_w, i32_w]; rw [c7b0]) | skip)
      by_cases c8 : 0 < (l0.length : Int)
      · rw [if_pos c8] at H
        have c8b0 : decide (0 < (l0.length : Int)) = true := decide_eq_true c8
        have c8b1 : decide (0 < l0.length) = true := decide_eq_true (by omega)
        clear c8
        have H' := Aside0.mk H
        clear H
        have p442 : 0 ≤ (0 : Int) := (by omega)
        have q442 : 0 < (l0.length : Int) := of_decide_eq_true (by first | (with_reducible assumption) | assumption)
        obtain ⟨ad442, e442, hx442_0⟩ := Kd.at_int HR0.out 0 p442 q442
        cases e442
        have qi442 : (0 < l0.length) = True := eq_true (by omega)
        (try rw [show ((0 : Int)).toNat = 0 from rfl] at hx442_0)
        (try rw [Addr.add_zero'] at hx442_0)
        have hn442_0 : ad442.block ≠ gb441 := Nat.ne_of_lt (Nat.lt_of_lt_of_le (by have := World.block_lt_of_cell? _ _ hx442_0; first | rwa [add_block] at this | exact this) GW441.out)
        have hn442_1 : ad442.block ≠ gb441 := Nat.ne_of_lt (Nat.lt_of_lt_of_le (by have := World.block_lt_of_cell? _ _ hx442_0; first | rwa [add_block] at this | exact this) GW441.out)
        replace hx442_0 := (HB.out.cell (World.block_lt_of_cell? w _ hx442_0)).trans hx442_0
        replace hx442_0 := (cell_far (p := ⟨gb441, 0, none⟩) (by first | (rw [add_block]; exact hn442_0) | (show (Addr.add _ _).block ≠ _; rw [add_block]; exact hn442_0) | exact hn442_0) (.int .i64 0)).trans hx442_0
        replace hx442_0 := (cell_far (p := ⟨gb441, 1, none⟩) (by first | (rw [add_block]; exact hn442_1) | (show (Addr.add _ _).block ≠ _; rw [add_block]; exact hn442_1) | exact hn442_1) (.int .i64 0)).trans hx442_0
        clear hn442_0
        clear hn442_1
        replace p442 := eq_true p442
        replace q442 := eq_true q442
        go_wp2
        go_meet
        case rel => exact ⟨_, (((rd l0 0) == 255)), (by first | rfl | (simp; done) | (simp [*]; done)), H', ⟨by first | omega | exact Nat.le_refl _⟩, ⟨by (with_reducible repeat (first | refine blk_drewN ?_ _ | refine blk_drew ?_ | refine blk_alloc ?_ _)); refine blk_far ?_ NB440_441.out _; (with_reducible repeat (first | refine blk_drewN ?_ _ | refine blk_drew ?_ | refine blk_alloc ?_ _)); refine blk_far ?_ NB440_441.out _; (with_reducible repeat (first | refine blk_drewN ?_ _ | refine blk_drew ?_ | refine blk_alloc ?_ _)); exact BK440.out⟩, ⟨by (with_reducible repeat (first | refine blk_drewN ?_ _ | refine blk_drew ?_ | refine blk_alloc ?_ _)); refine blk_put (cs := #[.int .i64 0, .int .i64 0]) ?_ 1 _ rfl; (with_reducible repeat (first | refine blk_drewN ?_ _ | refine blk_drew ?_ | refine blk_alloc ?_ _)); refine blk_put (cs := #[.int .i64 0, .int .i64 0]) ?_ 0 _ rfl; (with_reducible repeat (first | refine blk_drewN ?_ _ | refine blk_drew ?_ | refine blk_alloc ?_ _)); exact BK441.out⟩, ⟨by repeat (first | (with_reducible first | exact HB.out | apply below_alloc | apply pw_below_drewN | apply below_drew1 | refine below_set ?_ GE440.out | refine below_set ?_ GE441.out) | exact HB.out)⟩⟩
      · rw [if_neg c8] at H
        exact absurd H (by simp)
    · rw [if_neg c7] at H
      have c7b0 : decide (0 < (l0.length : Int)) = false := decide_eq_false c7
      have c7b1 : decide (0 < l0.length) = false := decide_eq_false (by omega)
      clear c7
      (first | rw [c7b0] | (simp only [i64_w, i32_w]; rw [c7b0]) | skip)
      have H' := Aside0.mk H
      clear H
      go_wp2
      go_meet
      case rel => exact ⟨_, (false), (by first | rfl | (simp; done) | (simp [*]; done)), H', ⟨by first | omega | exact Nat.le_refl _⟩, ⟨by (with_reducible repeat (first | refine blk_drewN ?_ _ | refine blk_drew ?_ | refine blk_alloc ?_ _)); refine blk_far ?_ NB440_441.out _; (with_reducible repeat (first | refine blk_drewN ?_ _ | refine blk_drew ?_ | refine blk_alloc ?_ _)); refine blk_far ?_ NB440_441.out _; (with_reducible repeat (first | refine blk_drewN ?_ _ | refine blk_drew ?_ | refine blk_alloc ?_ _)); exact BK440.out⟩, ⟨by (with_reducible repeat (first | refine blk_drewN ?_ _ | refine blk_drew ?_ | refine blk_alloc ?_ _)); refine blk_put (cs := #[.int .i64 0, .int .i64 0]) ?_ 1 _ rfl; (with_reducible repeat (first | refine blk_drewN ?_ _ | refine blk_drew ?_ | refine blk_alloc ?_ _)); refine blk_put (cs := #[.int .i64 0, .int .i64 0]) ?_ 0 _ rfl; (with_reducible repeat (first | refine blk_drewN ?_ _ | refine blk_drew ?_ | refine blk_alloc ?_ _)); exact BK441.out⟩, ⟨by repeat (first | (with_reducible first | exact HB.out | apply below_alloc | apply pw_below_drewN | apply below_drew1 | refine below_set ?_ GE440.out | refine below_set ?_ GE441.out) | exact HB.out)⟩⟩
  case rest =>
    clear HC2
    try clear c2
    try clear p2
    try clear p4
    try clear q4
    try clear hx4
    try clear qi4
    try clear c5
    try clear c7
    try clear c7b0
    try clear c7b1
    try clear c8
    try clear c8b0
    try clear c8b1
    try clear hcz6_0
    try clear hcz6_1
    try clear hfz6_0
    try clear hfz6_1
    try clear hx442_0
    try clear p442
    try clear q442
    obtain ⟨kq, x17_1, rfl, HA, HJ1, BK440, BK441, HB⟩ := hcut
    cases kq with
    | zero => exact absurd HA.out (by simp [umpireref08_Read.j0])
    | succ kj1 =>
      have H := HA.out
      clear HA
      simp only [umpireref08_Read.j0] at H
      have HC9 := Aside0.mk H
      clear H
      go_upto_if 17 with (fail)
      go_cut [5] (fun v5 wc => ∃ (kq : Nat) (x5_8 : Int) (x441000_8 : Int) (x441001_8 : Int), v5 = .int .i64 x5_8 ∧ Aside0 (umpireref08_Read.j1 kq l0 x5_8 0 0 = some (r1, r2, r3)) ∧ Aside0 (kq ≤ kj1) ∧ Aside0 (wc.heap[gb440]? = some (.cells #[.int .i64 x441000_8, .int .i64 x441001_8] 43 (0, 0))) ∧ Aside0 (wc.heap[gb441]? = some (.cells #[.int .i64 0, .int .i64 0] 43 (0, 0))) ∧ Aside0 (Below w.heap.size w wc))
      case first =>
        have H := HC9.out
        clear HC9
        by_cases c10 : x17_1 = true
        · subst c10
          have H1 : (if (l0.length : Int) < 2 then (some (0, 0, 2)) else (if 1 < (l0.length : Int) then (if (rd l0 1) = 3 then (umpireref08_Read.j1 kj1 l0 2 0 0) else (some (0, 0, 3))) else (none))) = some (r1, r2, r3) := by rw [if_pos rfl] at H; exact H
          clear H
          have H := H1
          clear H1
          by_cases c11 : (l0.length : Int) < 2
          · rw [if_pos c11] at H
            have c11b0 : decide ((l0.length : Int) < 2) = true := decide_eq_true c11
            have c11b1 : decide (l0.length < 2) = true := decide_eq_true (by omega)
            clear c11
            (first | rw [c11b0] | (simp only [i64_w, i32_w]; rw [c11b0]) | skip)
            simp only [Option.some.injEq, Prod.mk.injEq] at H
            obtain ⟨rfl, rfl, rfl⟩ := H
            have hnb12 := NB441_440.out
            have hnc12 := NB440_441.out
            have hcz13_0 : wc.cell? ⟨gb441, 0, none⟩ = some (.int .i64 0) := (blk_cell BK441.out 0).trans rfl
            have hcz13_1 : wc.cell? ⟨gb441, 1, none⟩ = some (.int .i64 0) := (blk_cell BK441.out 1).trans rfl
            have hfz13_0 := blk_frozen BK441.out 0
            have hfz13_1 := blk_frozen BK441.out 1
            have hcz14_0 : wc.cell? ⟨gb440, 0, none⟩ = some (.int .i64 0) := (blk_cell BK440.out 0).trans rfl
            have hcz14_1 : wc.cell? ⟨gb440, 1, none⟩ = some (.int .i64 0) := (blk_cell BK440.out 1).trans rfl
            have hfz14_0 := blk_frozen BK440.out 0
            have hfz14_1 := blk_frozen BK440.out 1
            go_wp2
            refine bodyPost_ret (results_ct rfl _ _ gb440 43 #[.int .i64 0, .int .i64 0] (0, 0) _ rfl (by (with_reducible repeat (first | refine blk_drewN ?_ _ | refine blk_drew ?_ | refine blk_alloc ?_ _)); refine blk_put (cs := #[.int .i64 0, .int .i64 0]) ?_ 1 _ rfl; (with_reducible repeat (first | refine blk_drewN ?_ _ | refine blk_drew ?_ | refine blk_alloc ?_ _)); refine blk_put (cs := #[.int .i64 0, .int .i64 0]) ?_ 0 _ rfl; (with_reducible repeat (first | refine blk_drewN ?_ _ | refine blk_drew ?_ | refine blk_alloc ?_ _)); exact BK440.out) Try.underlying43 rfl (by kernel_rfl)) rfl ?_
            exact ⟨by first | rfl | (simp [errW_none, errW_some] <;> rfl) | (simp [*, errW_none, errW_some] <;> rfl), by repeat (first | (with_reducible first | exact HB.out | apply below_alloc | apply pw_below_drewN | apply below_drew1 | refine below_set ?_ GE440.out | refine below_set ?_ GE441.out) | exact HB.out)⟩
          · rw [if_neg c11] at H
            have c11b0 : decide ((l0.length : Int) < 2) = false := decide_eq_false c11
            have c11b1 : decide (l0.length < 2) = false := decide_eq_false (by omega)
            clear c11
            (first | rw [c11b0] | (simp only [i64_w, i32_w]; rw [c11b0]) | skip)
            by_cases c15 : 1 < (l0.length : Int)
            · rw [if_pos c15] at H
              have c15b0 : decide (1 < (l0.length : Int)) = true := decide_eq_true c15
              have c15b1 : decide (1 < l0.length) = true := decide_eq_true (by omega)
              clear c15
              by_cases c16 : (rd l0 1) = 3
              · rw [if_pos c16] at H
                have c16b0 : ((rd l0 1) == 3) = true := beq_iff_eq.mpr c16
                have c16b1 : ((rd l0 1) != 3) = false := bne_eq_false_iff_eq.mpr c16
                clear c16
                have H' := Aside0.mk H
                clear H
                have p443 : 0 ≤ (1 : Int) := (by omega)
                have q443 : 1 < (l0.length : Int) := of_decide_eq_true (by first | (with_reducible assumption) | assumption)
                obtain ⟨ad443, e443, hx443_0⟩ := Kd.at_int HR0.out 1 p443 q443
                cases e443
                (try simp only [show (1 : Int).toNat = 1 from rfl, Nat.reduceMul, Nat.reduceEqDiff, Go.Addr.add, ↓reduceIte] at hx443_0)
                have qi443 : (1 < l0.length) = True := eq_true (by omega)
                (try rw [show ((1 : Int)).toNat = 1 from rfl] at hx443_0)
                replace hx443_0 := (HB.out.cell (World.block_lt_of_cell? w _ hx443_0)).trans hx443_0
                replace p443 := eq_true p443
                replace q443 := eq_true q443
                go_wp2
                go_meet
                case rel => exact ⟨_, (2), (0), (0), (by first | rfl | (simp; done) | (simp [*]; done)), H', ⟨by have := HJ1.out; first | omega | exact Nat.le_refl _⟩, ⟨by (with_reducible repeat (first | refine blk_drewN ?_ _ | refine blk_drew ?_ | refine blk_alloc ?_ _)); exact BK440.out⟩, ⟨by (with_reducible repeat (first | refine blk_drewN ?_ _ | refine blk_drew ?_ | refine blk_alloc ?_ _)); exact BK441.out⟩, ⟨by repeat (first | (with_reducible first | exact HB.out | apply below_alloc | apply pw_below_drewN | apply below_drew1 | refine below_set ?_ GE440.out | refine below_set ?_ GE441.out) | exact HB.out)⟩⟩
              · rw [if_neg c16] at H
                have c16b0 : ((rd l0 1) == 3) = false := beq_eq_false_iff_ne.mpr c16
                have c16b1 : ((rd l0 1) != 3) = true := bne_iff_ne.mpr c16
                simp only [Option.some.injEq, Prod.mk.injEq] at H
                obtain ⟨rfl, rfl, rfl⟩ := H
                have p443 : 0 ≤ (1 : Int) := (by omega)
                have q443 : 1 < (l0.length : Int) := of_decide_eq_true (by first | (with_reducible assumption) | assumption)
                obtain ⟨ad443, e443, hx443_0⟩ := Kd.at_int HR0.out 1 p443 q443
                cases e443
                (try simp only [show (1 : Int).toNat = 1 from rfl, Nat.reduceMul, Nat.reduceEqDiff, Go.Addr.add, ↓reduceIte] at hx443_0)
                have qi443 : (1 < l0.length) = True := eq_true (by omega)
                (try rw [show ((1 : Int)).toNat = 1 from rfl] at hx443_0)
                replace hx443_0 := (HB.out.cell (World.block_lt_of_cell? w _ hx443_0)).trans hx443_0
                replace p443 := eq_true p443
                replace q443 := eq_true q443
                have hnb17 := NB441_440.out
                have hnc17 := NB440_441.out
                have hcz18_0 : wc.cell? ⟨gb441, 0, none⟩ = some (.int .i64 0) := (blk_cell BK441.out 0).trans rfl
                have hcz18_1 : wc.cell? ⟨gb441, 1, none⟩ = some (.int .i64 0) := (blk_cell BK441.out 1).trans rfl
                have hfz18_0 := blk_frozen BK441.out 0
                have hfz18_1 := blk_frozen BK441.out 1
                have hcz19_0 : wc.cell? ⟨gb440, 0, none⟩ = some (.int .i64 0) := (blk_cell BK440.out 0).trans rfl
                have hcz19_1 : wc.cell? ⟨gb440, 1, none⟩ = some (.int .i64 0) := (blk_cell BK440.out 1).trans rfl
                have hfz19_0 := blk_frozen BK440.out 0
                have hfz19_1 := blk_frozen BK440.out 1
                go_wp2
                refine bodyPost_ret (results_ct rfl _ _ gb440 43 #[.int .i64 0, .int .i64 0] (0, 0) _ rfl (by (with_reducible repeat (first | refine blk_drewN ?_ _ | refine blk_drew ?_ | refine blk_alloc ?_ _)); refine blk_put (cs := #[.int .i64 0, .int .i64 0]) ?_ 1 _ rfl; (with_reducible repeat (first | refine blk_drewN ?_ _ | refine blk_drew ?_ | refine blk_alloc ?_ _)); refine blk_put (cs := #[.int .i64 0, .int .i64 0]) ?_ 0 _ rfl; (with_reducible repeat (first | refine blk_drewN ?_ _ | refine blk_drew ?_ | refine blk_alloc ?_ _)); exact BK440.out) Try.underlying43 rfl (by kernel_rfl)) rfl ?_
                exact ⟨by first | rfl | (simp [errW_none, errW_some] <;> rfl) | (simp [*, errW_none, errW_some] <;> rfl), by repeat (first | (with_reducible first | exact HB.out | apply below_alloc | apply pw_below_drewN | apply below_drew1 | refine below_set ?_ GE440.out | refine below_set ?_ GE441.out) | exact HB.out)⟩
            · rw [if_neg c15] at H
              exact absurd H (by simp)
        · replace c10 := Bool.eq_false_iff.mpr c10
          subst c10
          have H1 : (umpireref08_Read.j1 kj1 l0 0 0 0) = some (r1, r2, r3) := by rw [if_neg (show ¬ (false = true) by decide)] at H; exact H
          clear H
          have H := H1
          clear H1
          have H' := Aside0.mk H
          clear H
          go_wp2
          go_meet
          case rel => exact ⟨_, (0), (0), (0), (by first | rfl | (simp; done) | (simp [*]; done)), H', ⟨by have := HJ1.out; first | omega | exact Nat.le_refl _⟩, ⟨by (with_reducible repeat (first | refine blk_drewN ?_ _ | refine blk_drew ?_ | refine blk_alloc ?_ _)); exact BK440.out⟩, ⟨by (with_reducible repeat (first | refine blk_drewN ?_ _ | refine blk_drew ?_ | refine blk_alloc ?_ _)); exact BK441.out⟩, ⟨by repeat (first | (with_reducible first | exact HB.out | apply below_alloc | apply pw_below_drewN | apply below_drew1 | refine below_set ?_ GE440.out | refine below_set ?_ GE441.out) | exact HB.out)⟩⟩
      case rest =>
        clear HC9
        try clear c1
        try clear c2
        try clear p2
        try clear p4
        try clear q4
        try clear hx4
        try clear qi4
        try clear c5
        try clear c7
        try clear c7b0
        try clear c7b1
        try clear c8
        try clear c8b0
        try clear c8b1
        try clear c10
        try clear c11
        try clear c11b0
        try clear c11b1
        try clear c12
        try clear c15
        try clear c15b0
        try clear c15b1
        try clear c16
        try clear c16b0
        try clear c16b1
        try clear c17
        try clear hcz13_0
        try clear hcz13_1
        try clear hcz14_0
        try clear hcz14_1
        try clear hcz18_0
        try clear hcz18_1
        try clear hcz19_0
        try clear hcz19_1
        try clear hcz6_0
        try clear hcz6_1
        try clear hfz13_0
        try clear hfz13_1
        try clear hfz14_0
        try clear hfz14_1
        try clear hfz18_0
        try clear hfz18_1
        try clear hfz19_0
        try clear hfz19_1
        try clear hfz6_0
        try clear hfz6_1
        try clear hx442_0
        try clear hx443_0
        try clear p2
        try clear p4
        try clear p442
        try clear p443
        try clear q4
        try clear q442
        try clear q443
        obtain ⟨kq, x5_8, x441000_8, x441001_8, rfl, HA, HJ8, BK440, BK441, HB⟩ := hcut
        cases kq with
        | zero => exact absurd HA.out (by simp [umpireref08_Read.j1])
        | succ kj8 =>
          have H := HA.out
          clear HA
          simp only [umpireref08_Read.j1] at H
          by_cases c20 : x5_8 ≥ (l0.length : Int)
          · rw [if_pos c20] at H
            have c20b0 : decide ((l0.length : Int) ≤ x5_8) = true := decide_eq_true c20
            clear c20
            simp only [Option.some.injEq, Prod.mk.injEq] at H
            obtain ⟨rfl, rfl, rfl⟩ := H
            have hnb21 := NB441_440.out
            have hnc21 := NB440_441.out
            have hcz22_0 : wc.cell? ⟨gb441, 0, none⟩ = some (.int .i64 0) := (blk_cell BK441.out 0).trans rfl
            have hcz22_1 : wc.cell? ⟨gb441, 1, none⟩ = some (.int .i64 0) := (blk_cell BK441.out 1).trans rfl
            have hfz22_0 := blk_frozen BK441.out 0
            have hfz22_1 := blk_frozen BK441.out 1
            have hcz23_0 : wc.cell? ⟨gb440, 0, none⟩ = some (.int .i64 x441000_8) := (blk_cell BK440.out 0).trans rfl
            have hcz23_1 : wc.cell? ⟨gb440, 1, none⟩ = some (.int .i64 x441001_8) := (blk_cell BK440.out 1).trans rfl
            have hfz23_0 := blk_frozen BK440.out 0
            have hfz23_1 := blk_frozen BK440.out 1
            go_wp2
            refine bodyPost_ret (results_ct rfl _ _ gb440 43 #[.int .i64 0, .int .i64 0] (0, 0) _ rfl (by (with_reducible repeat (first | refine blk_drewN ?_ _ | refine blk_drew ?_ | refine blk_alloc ?_ _)); refine blk_put (cs := #[.int .i64 0, .int .i64 x441001_8]) ?_ 1 _ rfl; (with_reducible repeat (first | refine blk_drewN ?_ _ | refine blk_drew ?_ | refine blk_alloc ?_ _)); refine blk_put (cs := #[.int .i64 x441000_8, .int .i64 x441001_8]) ?_ 0 _ rfl; (with_reducible repeat (first | refine blk_drewN ?_ _ | refine blk_drew ?_ | refine blk_alloc ?_ _)); exact BK440.out) Try.underlying43 rfl (by kernel_rfl)) rfl ?_
            exact ⟨by first | rfl | (simp [errW_none, errW_some] <;> rfl) | (simp [*, errW_none, errW_some] <;> rfl), by repeat (first | (with_reducible first | exact HB.out | apply below_alloc | apply pw_below_drewN | apply below_drew1 | refine below_set ?_ GE440.out | refine below_set ?_ GE441.out) | exact HB.out)⟩
          · rw [if_neg c20] at H
            have c20b0 : decide ((l0.length : Int) ≤ x5_8) = false := decide_eq_false c20
            clear c20
            by_cases c24 : 0 ≤ x5_8
            · rw [if_pos c24] at H
              have c24b0 : decide (0 ≤ x5_8) = true := decide_eq_true c24
              clear c24
              by_cases c25 : x5_8 < (l0.length : Int)
              · rw [if_pos c25] at H
                have c25b0 : decide (x5_8 < (l0.length : Int)) = true := decide_eq_true c25
                clear c25
                by_cases c26 : (Int.tmod (wrap64 (rd l0 x5_8)) 2) = 1
                · rw [if_pos c26] at H
                  have c26b0 : ((Int.tmod (wrap64 (rd l0 x5_8)) 2) == 1) = true := beq_iff_eq.mpr c26
                  have c26b1 : ((Int.tmod (wrap64 (rd l0 x5_8)) 2) != 1) = false := bne_eq_false_iff_eq.mpr c26
                  clear c26
                  by_cases c27 : (wrap64 (rd l0 x5_8)) = 255
                  · rw [if_pos c27] at H
                    have c27b0 : ((wrap64 (rd l0 x5_8)) == 255) = true := beq_iff_eq.mpr c27
                    have c27b1 : ((wrap64 (rd l0 x5_8)) != 255) = false := bne_eq_false_iff_eq.mpr c27
                    clear c27
                    simp only [Option.some.injEq, Prod.mk.injEq] at H
                    obtain ⟨rfl, rfl, rfl⟩ := H
                    have p444 : 0 ≤ (x5_8 : Int) := of_decide_eq_true (by first | (with_reducible assumption) | assumption)
                    have q444 : x5_8 < (l0.length : Int) := of_decide_eq_true (by first | (with_reducible assumption) | assumption)
                    obtain ⟨ad444, e444, hx444_0⟩ := Kd.at_int HR0.out x5_8 p444 q444
                    cases e444
                    replace hx444_0 := (HB.out.cell (World.block_lt_of_cell? w _ hx444_0)).trans hx444_0
                    replace p444 := eq_true p444
                    replace q444 := eq_true q444
                    have hnb28 := NB441_440.out
                    have hnc28 := NB440_441.out
                    have hcz29_0 : wc.cell? ⟨gb441, 0, none⟩ = some (.int .i64 0) := (blk_cell BK441.out 0).trans rfl
                    have hcz29_1 : wc.cell? ⟨gb441, 1, none⟩ = some (.int .i64 0) := (blk_cell BK441.out 1).trans rfl
                    have hfz29_0 := blk_frozen BK441.out 0
                    have hfz29_1 := blk_frozen BK441.out 1
                    have hcz30_0 : wc.cell? ⟨gb440, 0, none⟩ = some (.int .i64 x441000_8) := (blk_cell BK440.out 0).trans rfl
                    have hcz30_1 : wc.cell? ⟨gb440, 1, none⟩ = some (.int .i64 x441001_8) := (blk_cell BK440.out 1).trans rfl
                    have hfz30_0 := blk_frozen BK440.out 0
                    have hfz30_1 := blk_frozen BK440.out 1
                    go_wp2
                    refine bodyPost_ret (results_ct rfl _ _ gb440 43 #[.int .i64 0, .int .i64 0] (0, 0) _ rfl (by (with_reducible repeat (first | refine blk_drewN ?_ _ | refine blk_drew ?_ | refine blk_alloc ?_ _)); refine blk_put (cs := #[.int .i64 0, .int .i64 x441001_8]) ?_ 1 _ rfl; (with_reducible repeat (first | refine blk_drewN ?_ _ | refine blk_drew ?_ | refine blk_alloc ?_ _)); refine blk_put (cs := #[.int .i64 x441000_8, .int .i64 x441001_8]) ?_ 0 _ rfl; (with_reducible repeat (first | refine blk_drewN ?_ _ | refine blk_drew ?_ | refine blk_alloc ?_ _)); exact BK440.out) Try.underlying43 rfl (by kernel_rfl)) rfl ?_
                    exact ⟨by first | rfl | (simp [errW_none, errW_some] <;> rfl) | (simp [*, errW_none, errW_some] <;> rfl), by repeat (first | (with_reducible first | exact HB.out | apply below_alloc | apply pw_below_drewN | apply below_drew1 | refine below_set ?_ GE440.out | refine below_set ?_ GE441.out) | exact HB.out)⟩
                  · rw [if_neg c27] at H
                    have c27b0 : ((wrap64 (rd l0 x5_8)) == 255) = false := beq_eq_false_iff_ne.mpr c27
                    have c27b1 : ((wrap64 (rd l0 x5_8)) != 255) = true := bne_iff_ne.mpr c27
                    simp only [Option.some.injEq, Prod.mk.injEq] at H
                    obtain ⟨rfl, rfl, rfl⟩ := H
                    have p444 : 0 ≤ (x5_8 : Int) := of_decide_eq_true (by first | (with_reducible assumption) | assumption)
                    have q444 : x5_8 < (l0.length : Int) := of_decide_eq_true (by first | (with_reducible assumption) | assumption)
                    obtain ⟨ad444, e444, hx444_0⟩ := Kd.at_int HR0.out x5_8 p444 q444
                    cases e444
                    replace hx444_0 := (HB.out.cell (World.block_lt_of_cell? w _ hx444_0)).trans hx444_0
                    replace p444 := eq_true p444
                    replace q444 := eq_true q444
                    have hnb31 := NB440_441.out
                    have hnc31 := NB441_440.out
                    have hcz32_0 : wc.cell? ⟨gb440, 0, none⟩ = some (.int .i64 x441000_8) := (blk_cell BK440.out 0).trans rfl
                    have hcz32_1 : wc.cell? ⟨gb440, 1, none⟩ = some (.int .i64 x441001_8) := (blk_cell BK440.out 1).trans rfl
                    have hfz32_0 := blk_frozen BK440.out 0
                    have hfz32_1 := blk_frozen BK440.out 1
                    go_wp2
                    refine bodyPost_ret (results_ct rfl _ _ gb440 43 #[.int .i64 (wrap64 (rd l0 x5_8)), .int .i64 (wrap64 (x5_8 + 1))] (0, 0) _ rfl (by (with_reducible repeat (first | refine blk_drewN ?_ _ | refine blk_drew ?_ | refine blk_alloc ?_ _)); refine blk_put (cs := #[.int .i64 (wrap64 (rd l0 x5_8)), .int .i64 x441001_8]) ?_ 1 _ rfl; (with_reducible repeat (first | refine blk_drewN ?_ _ | refine blk_drew ?_ | refine blk_alloc ?_ _)); refine blk_put (cs := #[.int .i64 x441000_8, .int .i64 x441001_8]) ?_ 0 _ rfl; (with_reducible repeat (first | refine blk_drewN ?_ _ | refine blk_drew ?_ | refine blk_alloc ?_ _)); exact BK440.out) Try.underlying43 rfl (by kernel_rfl)) rfl ?_
                    exact ⟨by first | rfl | (simp [errW_none, errW_some] <;> rfl) | (simp [*, errW_none, errW_some] <;> rfl), by repeat (first | (with_reducible first | exact HB.out | apply below_alloc | apply pw_below_drewN | apply below_drew1 | refine below_set ?_ GE440.out | refine below_set ?_ GE441.out) | exact HB.out)⟩
                · rw [if_neg c26] at H
                  have c26b0 : ((Int.tmod (wrap64 (rd l0 x5_8)) 2) == 1) = false := beq_eq_false_iff_ne.mpr c26
                  have c26b1 : ((Int.tmod (wrap64 (rd l0 x5_8)) 2) != 1) = true := bne_iff_ne.mpr c26
                  by_cases c33 : (wrap64 (x5_8 + 1)) ≥ (l0.length : Int)
                  · rw [if_pos c33] at H
                    have c33b0 : decide ((l0.length : Int) ≤ (wrap64 (x5_8 + 1))) = true := decide_eq_true c33
                    clear c33
                    simp only [Option.some.injEq, Prod.mk.injEq] at H
                    obtain ⟨rfl, rfl, rfl⟩ := H
                    have p444 : 0 ≤ (x5_8 : Int) := of_decide_eq_true (by first | (with_reducible assumption) | assumption)
                    have q444 : x5_8 < (l0.length : Int) := of_decide_eq_true (by first | (with_reducible assumption) | assumption)
                    obtain ⟨ad444, e444, hx444_0⟩ := Kd.at_int HR0.out x5_8 p444 q444
                    cases e444
                    replace hx444_0 := (HB.out.cell (World.block_lt_of_cell? w _ hx444_0)).trans hx444_0
                    replace p444 := eq_true p444
                    replace q444 := eq_true q444
                    have hnb34 := NB441_440.out
                    have hnc34 := NB440_441.out
                    have hcz35_0 : wc.cell? ⟨gb441, 0, none⟩ = some (.int .i64 0) := (blk_cell BK441.out 0).trans rfl
                    have hcz35_1 : wc.cell? ⟨gb441, 1, none⟩ = some (.int .i64 0) := (blk_cell BK441.out 1).trans rfl
                    have hfz35_0 := blk_frozen BK441.out 0
                    have hfz35_1 := blk_frozen BK441.out 1
                    have hcz36_0 : wc.cell? ⟨gb440, 0, none⟩ = some (.int .i64 x441000_8) := (blk_cell BK440.out 0).trans rfl
                    have hcz36_1 : wc.cell? ⟨gb440, 1, none⟩ = some (.int .i64 x441001_8) := (blk_cell BK440.out 1).trans rfl
                    have hfz36_0 := blk_frozen BK440.out 0
                    have hfz36_1 := blk_frozen BK440.out 1
                    go_wp2
                    refine bodyPost_ret (results_ct rfl _ _ gb440 43 #[.int .i64 0, .int .i64 0] (0, 0) _ rfl (by (with_reducible repeat (first | refine blk_drewN ?_ _ | refine blk_drew ?_ | refine blk_alloc ?_ _)); refine blk_put (cs := #[.int .i64 0, .int .i64 x441001_8]) ?_ 1 _ rfl; (with_reducible repeat (first | refine blk_drewN ?_ _ | refine blk_drew ?_ | refine blk_alloc ?_ _)); refine blk_put (cs := #[.int .i64 x441000_8, .int .i64 x441001_8]) ?_ 0 _ rfl; (with_reducible repeat (first | refine blk_drewN ?_ _ | refine blk_drew ?_ | refine blk_alloc ?_ _)); exact BK440.out) Try.underlying43 rfl (by kernel_rfl)) rfl ?_
                    exact ⟨by first | rfl | (simp [errW_none, errW_some] <;> rfl) | (simp [*, errW_none, errW_some] <;> rfl), by repeat (first | (with_reducible first | exact HB.out | apply below_alloc | apply pw_below_drewN | apply below_drew1 | refine below_set ?_ GE440.out | refine below_set ?_ GE441.out) | exact HB.out)⟩
                  · rw [if_neg c33] at H
                    have c33b0 : decide ((l0.length : Int) ≤ (wrap64 (x5_8 + 1))) = false := decide_eq_false c33
                    clear c33
                    obtain ⟨ji37, hji37⟩ : ∃ j_ : Int, (wrap64 (x5_8 + 1)) = j_ := ⟨_, rfl⟩
                    replace H : (if 0 ≤ (ji37) then (if (ji37) < (l0.length : Int) then (if (Int.tmod (wrap64 (rd l0 (ji37))) 2) = 0 then (some (0, 0, 3)) else (if (wrap64 (rd l0 x5_8)) = 0 then (if (wrap64 (rd l0 (ji37))) = 255 then (some (0, 0, 3)) else (some (wrap64 ((wrap64 (256 * (wrap64 (rd l0 x5_8)))) + (wrap64 (rd l0 (ji37)))), wrap64 (x5_8 + 2), 0))) else (some (wrap64 ((wrap64 (256 * (wrap64 (rd l0 x5_8)))) + (wrap64 (rd l0 (ji37)))), wrap64 (x5_8 + 2), 0)))) else (none)) else (none)) = some (r1, r2, r3) := by first | (rw [hji37] at H; exact H) | (simp only [hji37] at H ⊢; exact H)
                    (try rw [hji37] at c33b0)
                    have hji37w : (IntKind.i64.wrap (x5_8 + 1)) = ji37 := (i64_w _).trans hji37
                    by_cases c38 : 0 ≤ (ji37)
                    · rw [if_pos c38] at H
                      have c38b0 : decide (0 ≤ (ji37)) = true := decide_eq_true c38
                      clear c38
                      by_cases c39 : (ji37) < (l0.length : Int)
                      · rw [if_pos c39] at H
                        have c39b0 : decide ((ji37) < (l0.length : Int)) = true := decide_eq_true c39
                        clear c39
                        by_cases c40 : (Int.tmod (wrap64 (rd l0 (ji37))) 2) = 0
                        · rw [if_pos c40] at H
                          have c40b0 : ((Int.tmod (wrap64 (rd l0 (ji37))) 2) == 0) = true := beq_iff_eq.mpr c40
                          have c40b1 : ((Int.tmod (wrap64 (rd l0 (ji37))) 2) != 0) = false := bne_eq_false_iff_eq.mpr c40
                          clear c40
                          simp only [Option.some.injEq, Prod.mk.injEq] at H
                          obtain ⟨rfl, rfl, rfl⟩ := H
                          have p444 : 0 ≤ (x5_8 : Int) := of_decide_eq_true (by first | (with_reducible assumption) | assumption)
                          have q444 : x5_8 < (l0.length : Int) := of_decide_eq_true (by first | (with_reducible assumption) | assumption)
                          obtain ⟨ad444, e444, hx444_0⟩ := Kd.at_int HR0.out x5_8 p444 q444
                          cases e444
                          replace hx444_0 := (HB.out.cell (World.block_lt_of_cell? w _ hx444_0)).trans hx444_0
                          replace p444 := eq_true p444
                          replace q444 := eq_true q444
                          have p445 : 0 ≤ ((ji37) : Int) := of_decide_eq_true (by first | (with_reducible assumption) | assumption)
                          have q445 : (ji37) < (l0.length : Int) := of_decide_eq_true (by first | (with_reducible assumption) | assumption)
                          obtain ⟨ad445, e445, hx445_0⟩ := Kd.at_int HR0.out (ji37) p445 q445
                          obtain rfl : ad444 = ad445 := (by injection e445)
                          replace hx445_0 := (HB.out.cell (World.block_lt_of_cell? w _ hx445_0)).trans hx445_0
                          replace p445 := eq_true p445
                          replace q445 := eq_true q445
                          have hnb41 := NB441_440.out
                          have hnc41 := NB440_441.out
                          have hcz42_0 : wc.cell? ⟨gb441, 0, none⟩ = some (.int .i64 0) := (blk_cell BK441.out 0).trans rfl
                          have hcz42_1 : wc.cell? ⟨gb441, 1, none⟩ = some (.int .i64 0) := (blk_cell BK441.out 1).trans rfl
                          have hfz42_0 := blk_frozen BK441.out 0
                          have hfz42_1 := blk_frozen BK441.out 1
                          have hcz43_0 : wc.cell? ⟨gb440, 0, none⟩ = some (.int .i64 x441000_8) := (blk_cell BK440.out 0).trans rfl
                          have hcz43_1 : wc.cell? ⟨gb440, 1, none⟩ = some (.int .i64 x441001_8) := (blk_cell BK440.out 1).trans rfl
                          have hfz43_0 := blk_frozen BK440.out 0
                          have hfz43_1 := blk_frozen BK440.out 1
                          go_wp2
                          refine bodyPost_ret (results_ct rfl _ _ gb440 43 #[.int .i64 0, .int .i64 0] (0, 0) _ rfl (by (with_reducible repeat (first | refine blk_drewN ?_ _ | refine blk_drew ?_ | refine blk_alloc ?_ _)); refine blk_put (cs := #[.int .i64 0, .int .i64 x441001_8]) ?_ 1 _ rfl; (with_reducible repeat (first | refine blk_drewN ?_ _ | refine blk_drew ?_ | refine blk_alloc ?_ _)); refine blk_put (cs := #[.int .i64 x441000_8, .int .i64 x441001_8]) ?_ 0 _ rfl; (with_reducible repeat (first | refine blk_drewN ?_ _ | refine blk_drew ?_ | refine blk_alloc ?_ _)); exact BK440.out) Try.underlying43 rfl (by kernel_rfl)) rfl ?_
                          exact ⟨by first | rfl | (simp [errW_none, errW_some] <;> rfl) | (simp only [← hji37]; first | rfl | (simp [errW_none, errW_some] <;> rfl)) | (simp [*, errW_none, errW_some] <;> rfl), by repeat (first | (with_reducible first | exact HB.out | apply below_alloc | apply pw_below_drewN | apply below_drew1 | refine below_set ?_ GE440.out | refine below_set ?_ GE441.out) | exact HB.out)⟩
                        · rw [if_neg c40] at H
                          have c40b0 : ((Int.tmod (wrap64 (rd l0 (ji37))) 2) == 0) = false := beq_eq_false_iff_ne.mpr c40
                          have c40b1 : ((Int.tmod (wrap64 (rd l0 (ji37))) 2) != 0) = true := bne_iff_ne.mpr c40
                          by_cases c44 : (wrap64 (rd l0 x5_8)) = 0
                          · rw [if_pos c44] at H
                            have c44b0 : ((wrap64 (rd l0 x5_8)) == 0) = true := beq_iff_eq.mpr c44
                            have c44b1 : ((wrap64 (rd l0 x5_8)) != 0) = false := bne_eq_false_iff_eq.mpr c44
                            clear c44
                            by_cases c45 : (wrap64 (rd l0 (ji37))) = 255
                            · rw [if_pos c45] at H
                              have c45b0 : ((wrap64 (rd l0 (ji37))) == 255) = true := beq_iff_eq.mpr c45
                              have c45b1 : ((wrap64 (rd l0 (ji37))) != 255) = false := bne_eq_false_iff_eq.mpr c45
                              clear c45
                              simp only [Option.some.injEq, Prod.mk.injEq] at H
                              obtain ⟨rfl, rfl, rfl⟩ := H
                              have p444 : 0 ≤ (x5_8 : Int) := of_decide_eq_true (by first | (with_reducible assumption) | assumption)
                              have q444 : x5_8 < (l0.length : Int) := of_decide_eq_true (by first | (with_reducible assumption) | assumption)
                              obtain ⟨ad444, e444, hx444_0⟩ := Kd.at_int HR0.out x5_8 p444 q444
                              cases e444
                              replace hx444_0 := (HB.out.cell (World.block_lt_of_cell? w _ hx444_0)).trans hx444_0
                              replace p444 := eq_true p444
                              replace q444 := eq_true q444
                              have p445 : 0 ≤ ((ji37) : Int) := of_decide_eq_true (by first | (with_reducible assumption) | assumption)
                              have q445 : (ji37) < (l0.length : Int) := of_decide_eq_true (by first | (with_reducible assumption) | assumption)
                              obtain ⟨ad445, e445, hx445_0⟩ := Kd.at_int HR0.out (ji37) p445 q445
                              obtain rfl : ad444 = ad445 := (by injection e445)
                              replace hx445_0 := (HB.out.cell (World.block_lt_of_cell? w _ hx445_0)).trans hx445_0
                              replace p445 := eq_true p445
                              replace q445 := eq_true q445
                              have hnb46 := NB441_440.out
                              have hnc46 := NB440_441.out
                              have hcz47_0 : wc.cell? ⟨gb441, 0, none⟩ = some (.int .i64 0) := (blk_cell BK441.out 0).trans rfl
                              have hcz47_1 : wc.cell? ⟨gb441, 1, none⟩ = some (.int .i64 0) := (blk_cell BK441.out 1).trans rfl
                              have hfz47_0 := blk_frozen BK441.out 0
                              have hfz47_1 := blk_frozen BK441.out 1
                              have hcz48_0 : wc.cell? ⟨gb440, 0, none⟩ = some (.int .i64 x441000_8) := (blk_cell BK440.out 0).trans rfl
                              have hcz48_1 : wc.cell? ⟨gb440, 1, none⟩ = some (.int .i64 x441001_8) := (blk_cell BK440.out 1).trans rfl
                              have hfz48_0 := blk_frozen BK440.out 0
                              have hfz48_1 := blk_frozen BK440.out 1
                              go_wp2
                              refine bodyPost_ret (results_ct rfl _ _ gb440 43 #[.int .i64 0, .int .i64 0] (0, 0) _ rfl (by (with_reducible repeat (first | refine blk_drewN ?_ _ | refine blk_drew ?_ | refine blk_alloc ?_ _)); refine blk_put (cs := #[.int .i64 0, .int .i64 x441001_8]) ?_ 1 _ rfl; (with_reducible repeat (first | refine blk_drewN ?_ _ | refine blk_drew ?_ | refine blk_alloc ?_ _)); refine blk_put (cs := #[.int .i64 x441000_8, .int .i64 x441001_8]) ?_ 0 _ rfl; (with_reducible repeat (first | refine blk_drewN ?_ _ | refine blk_drew ?_ | refine blk_alloc ?_ _)); exact BK440.out) Try.underlying43 rfl (by kernel_rfl)) rfl ?_
                              exact ⟨by first | rfl | (simp [errW_none, errW_some] <;> rfl) | (simp only [← hji37]; first | rfl | (simp [errW_none, errW_some] <;> rfl)) | (simp [*, errW_none, errW_some] <;> rfl), by repeat (first | (with_reducible first | exact HB.out | apply below_alloc | apply pw_below_drewN | apply below_drew1 | refine below_set ?_ GE440.out | refine below_set ?_ GE441.out) | exact HB.out)⟩
                            · rw [if_neg c45] at H
                              have c45b0 : ((wrap64 (rd l0 (ji37))) == 255) = false := beq_eq_false_iff_ne.mpr c45
                              have c45b1 : ((wrap64 (rd l0 (ji37))) != 255) = true := bne_iff_ne.mpr c45
                              simp only [Option.some.injEq, Prod.mk.injEq] at H
                              obtain ⟨rfl, rfl, rfl⟩ := H
                              have p444 : 0 ≤ (x5_8 : Int) := of_decide_eq_true (by first | (with_reducible assumption) | assumption)
                              have q444 : x5_8 < (l0.length : Int) := of_decide_eq_true (by first | (with_reducible assumption) | assumption)
                              obtain ⟨ad444, e444, hx444_0⟩ := Kd.at_int HR0.out x5_8 p444 q444
                              cases e444
                              replace hx444_0 := (HB.out.cell (World.block_lt_of_cell? w _ hx444_0)).trans hx444_0
                              replace p444 := eq_true p444
                              replace q444 := eq_true q444
                              have p445 : 0 ≤ ((ji37) : Int) := of_decide_eq_true (by first | (with_reducible assumption) | assumption)
                              have q445 : (ji37) < (l0.length : Int) := of_decide_eq_true (by first | (with_reducible assumption) | assumption)
                              obtain ⟨ad445, e445, hx445_0⟩ := Kd.at_int HR0.out (ji37) p445 q445
                              obtain rfl : ad444 = ad445 := (by injection e445)
                              replace hx445_0 := (HB.out.cell (World.block_lt_of_cell? w _ hx445_0)).trans hx445_0
                              replace p445 := eq_true p445
                              replace q445 := eq_true q445
                              have hnb49 := NB440_441.out
                              have hnc49 := NB441_440.out
                              have hcz50_0 : wc.cell? ⟨gb440, 0, none⟩ = some (.int .i64 x441000_8) := (blk_cell BK440.out 0).trans rfl
                              have hcz50_1 : wc.cell? ⟨gb440, 1, none⟩ = some (.int .i64 x441001_8) := (blk_cell BK440.out 1).trans rfl
                              have hfz50_0 := blk_frozen BK440.out 0
                              have hfz50_1 := blk_frozen BK440.out 1
                              go_wp2
                              refine bodyPost_ret (results_ct rfl _ _ gb440 43 #[.int .i64 (wrap64 ((wrap64 (256 * (wrap64 (rd l0 x5_8)))) + (wrap64 (rd l0 (ji37))))), .int .i64 (wrap64 (x5_8 + 2))] (0, 0) _ rfl (by (with_reducible repeat (first | refine blk_drewN ?_ _ | refine blk_drew ?_ | refine blk_alloc ?_ _)); refine blk_put (cs := #[.int .i64 (wrap64 ((wrap64 (256 * (wrap64 (rd l0 x5_8)))) + (wrap64 (rd l0 (ji37))))), .int .i64 x441001_8]) ?_ 1 _ rfl; (with_reducible repeat (first | refine blk_drewN ?_ _ | refine blk_drew ?_ | refine blk_alloc ?_ _)); refine blk_put (cs := #[.int .i64 x441000_8, .int .i64 x441001_8]) ?_ 0 _ rfl; (with_reducible repeat (first | refine blk_drewN ?_ _ | refine blk_drew ?_ | refine blk_alloc ?_ _)); exact BK440.out) Try.underlying43 rfl (by kernel_rfl)) rfl ?_
                              exact ⟨by first | rfl | (simp [errW_none, errW_some] <;> rfl) | (simp only [← hji37]; first | rfl | (simp [errW_none, errW_some] <;> rfl)) | (simp [*, errW_none, errW_some] <;> rfl), by repeat (first | (with_reducible first | exact HB.out | apply below_alloc | apply pw_below_drewN | apply below_drew1 | refine below_set ?_ GE440.out | refine below_set ?_ GE441.out) | exact HB.out)⟩
                          · rw [if_neg c44] at H
                            have c44b0 : ((wrap64 (rd l0 x5_8)) == 0) = false := beq_eq_false_iff_ne.mpr c44
                            have c44b1 : ((wrap64 (rd l0 x5_8)) != 0) = true := bne_iff_ne.mpr c44
                            simp only [Option.some.injEq, Prod.mk.injEq] at H
                            obtain ⟨rfl, rfl, rfl⟩ := H
                            have p444 : 0 ≤ (x5_8 : Int) := of_decide_eq_true (by first | (with_reducible assumption) | assumption)
                            have q444 : x5_8 < (l0.length : Int) := of_decide_eq_true (by first | (with_reducible assumption) | assumption)
                            obtain ⟨ad444, e444, hx444_0⟩ := Kd.at_int HR0.out x5_8 p444 q444
                            cases e444
                            replace hx444_0 := (HB.out.cell (World.block_lt_of_cell? w _ hx444_0)).trans hx444_0
                            replace p444 := eq_true p444
                            replace q444 := eq_true q444
                            have p445 : 0 ≤ ((ji37) : Int) := of_decide_eq_true (by first | (with_reducible assumption) | assumption)
                            have q445 : (ji37) < (l0.length : Int) := of_decide_eq_true (by first | (with_reducible assumption) | assumption)
                            obtain ⟨ad445, e445, hx445_0⟩ := Kd.at_int HR0.out (ji37) p445 q445
                            obtain rfl : ad444 = ad445 := (by injection e445)
                            replace hx445_0 := (HB.out.cell (World.block_lt_of_cell? w _ hx445_0)).trans hx445_0
                            replace p445 := eq_true p445
                            replace q445 := eq_true q445
                            have hnb51 := NB440_441.out
                            have hnc51 := NB441_440.out
                            have hcz52_0 : wc.cell? ⟨gb440, 0, none⟩ = some (.int .i64 x441000_8) := (blk_cell BK440.out 0).trans rfl
                            have hcz52_1 : wc.cell? ⟨gb440, 1, none⟩ = some (.int .i64 x441001_8) := (blk_cell BK440.out 1).trans rfl
                            have hfz52_0 := blk_frozen BK440.out 0
                            have hfz52_1 := blk_frozen BK440.out 1
                            go_wp2
                            refine bodyPost_ret (results_ct rfl _ _ gb440 43 #[.int .i64 (wrap64 ((wrap64 (256 * (wrap64 (rd l0 x5_8)))) + (wrap64 (rd l0 (ji37))))), .int .i64 (wrap64 (x5_8 + 2))] (0, 0) _ rfl (by (with_reducible repeat (first | refine blk_drewN ?_ _ | refine blk_drew ?_ | refine blk_alloc ?_ _)); refine blk_put (cs := #[.int .i64 (wrap64 ((wrap64 (256 * (wrap64 (rd l0 x5_8)))) + (wrap64 (rd l0 (ji37))))), .int .i64 x441001_8]) ?_ 1 _ rfl; (with_reducible repeat (first | refine blk_drewN ?_ _ | refine blk_drew ?_ | refine blk_alloc ?_ _)); refine blk_put (cs := #[.int .i64 x441000_8, .int .i64 x441001_8]) ?_ 0 _ rfl; (with_reducible repeat (first | refine blk_drewN ?_ _ | refine blk_drew ?_ | refine blk_alloc ?_ _)); exact BK440.out) Try.underlying43 rfl (by kernel_rfl)) rfl ?_
                            exact ⟨by first | rfl | (simp [errW_none, errW_some] <;> rfl) | (simp only [← hji37]; first | rfl | (simp [errW_none, errW_some] <;> rfl)) | (simp [*, errW_none, errW_some] <;> rfl), by repeat (first | (with_reducible first | exact HB.out | apply below_alloc | apply pw_below_drewN | apply below_drew1 | refine below_set ?_ GE440.out | refine below_set ?_ GE441.out) | exact HB.out)⟩
                      · rw [if_neg c39] at H
                        exact absurd H (by simp)
                    · rw [if_neg c38] at H
                      exact absurd H (by simp)
              · rw [if_neg c25] at H
                exact absurd H (by simp)
            · rw [if_neg c24] at H
              exact absurd H (by simp)

end Go.Proofs.Ytjpfhipgffmgjaa.Print
