-- laid by this session's own program (wip/mkprint.sh) for this claim
import Derived.Test.Ytnjimecjpnjojaa0
import Derived.Test.YtnjimecjpnjojaaF30
import Derived.Test.YtnjimecjpnjojaaF43
import Derived.Test.YtnjimecjpnjojaaF50
import Derived.Test.YtnjimecjpnjojaaF55
namespace Go.Proofs.Ytnjimecjpnjojaa.Print
open Go.RowKit Go.Proofs.YtnjimecjpnjojaaW.PrintWords Go.Proofs.YtnjimecjpnjojaaW.PrintLast Go.Proofs.YtnjimecjpnjojaaW.PrintMore
attribute [local go_sem] max2_int min2_int max_two min_two max_three min_three max_four min_four   -- for this text's walks alone
set_option linter.unusedVariables false
set_option linter.unusedSimpArgs false

/-! ### umpireref14_Read: function 33 -/
mutual
def umpireref14_Read.l0 : Nat → List (S55) → Int → Bool → Int → Bool → Int → Int → Bool → Bool → Int → Bool → Bool → Option (Bool × Int × Bool × Int × Int × Bool × Bool × Int × Bool × Bool × Bool)
  | 0, _, _, _, _, _, _, _, _, _, _, _, _ => none
  | k + 1, x0, x5, x654000, x654001, x654002, x654003, x654004, x654005, x654006, x654007, x654008, x654009 => if x5 < (x0.length : Int) then (if 0 ≤ x5 then ((umpireref14_Right.f k ((rd_T55 x0 x5).f0) ((rd_T55 x0 x5).f1)).bind fun t656 => (if t656 = true then (if x5 ≤ (x0.length : Int) then ((umpireref12_Find.f k (x0.take (x5 : Int).toNat) ((rd_T55 x0 x5).f0)).bind fun t661 => (umpireref14_Read.j1 k x0 x5 (decide (t661 ≥ 0)) x654000 x654001 x654002 x654003 x654004 x654005 x654006 x654007 x654008 x654009 ((rd_T55 x0 x5).f0) ((rd_T55 x0 x5).f1))) else (none)) else (umpireref14_Read.j1 k x0 x5 true x654000 x654001 x654002 x654003 x654004 x654005 x654006 x654007 x654008 x654009 ((rd_T55 x0 x5).f0) ((rd_T55 x0 x5).f1)))) else (none)) else (some (x654000, x654001, x654002, x654003, x654004, x654005, x654006, x654007, x654008, x654009, true))
def umpireref14_Read.j1 : Nat → List (S55) → Int → Bool → Bool → Int → Bool → Int → Int → Bool → Bool → Int → Bool → Bool → Int → List Int → Option (Bool × Int × Bool × Int × Int × Bool × Bool × Int × Bool × Bool × Bool)
  | 0, _, _, _, _, _, _, _, _, _, _, _, _, _, _, _ => none
  | k + 1, x0, x5, x29, x654000, x654001, x654002, x654003, x654004, x654005, x654006, x654007, x654008, x654009, x656000, x656001 => if x29 = true then (some (false, 0, false, 0, 0, false, false, 0, false, false, false)) else (if x656000 = 1 then ((umpireref02_Get.f k x656001 true).bind fun t662 => (umpireref14_Read.l0 k x0 (wrap64 (x5 + 1)) true (wrap64 (t662)) x654002 x654003 x654004 x654005 x654006 x654007 x654008 x654009)) else (if x656000 = 2 then ((umpireref02_Get.f k x656001 true).bind fun t663 => (umpireref14_Read.l0 k x0 (wrap64 (x5 + 1)) x654000 x654001 true ((t663) % 4294967296) x654004 x654005 x654006 x654007 x654008 x654009)) else (if x656000 = 3 then ((umpireref14_asks.f x656001).bind fun t664 => (umpireref14_Read.l0 k x0 (wrap64 (x5 + 1)) x654000 x654001 x654002 x654003 t664 x654005 x654006 x654007 x654008 x654009)) else (if x656000 = 4 then (umpireref14_Read.l0 k x0 (wrap64 (x5 + 1)) x654000 x654001 x654002 x654003 x654004 true x654006 x654007 x654008 x654009) else (if x656000 = 5 then ((umpireref02_Get.f k x656001 true).bind fun t665 => (umpireref14_Read.l0 k x0 (wrap64 (x5 + 1)) x654000 x654001 x654002 x654003 x654004 x654005 true ((t665) % 4294967296) x654008 x654009)) else (if x656000 = 7 then (umpireref14_Read.l0 k x0 (wrap64 (x5 + 1)) x654000 x654001 x654002 x654003 x654004 x654005 x654006 x654007 true x654009) else (if x656000 = 8 then (umpireref14_Read.l0 k x0 (wrap64 (x5 + 1)) x654000 x654001 x654002 x654003 x654004 x654005 x654006 x654007 x654008 true) else (umpireref14_Read.l0 k x0 (wrap64 (x5 + 1)) x654000 x654001 x654002 x654003 x654004 x654005 x654006 x654007 x654008 x654009))))))))
end
def umpireref14_Read.f (k : Nat) (l0 : List (S55)) : Option (Bool × Int × Bool × Int × Int × Bool × Bool × Int × Bool × Bool × Bool) := umpireref14_Read.l0 k l0 0 false 0 false 0 0 false false 0 false false
theorem umpireref14_Read.mono_l : ∀ k, (∀ y0 y1 y2 y3 y4 y5 y6 y7 y8 y9 y10 y11, LeO (umpireref14_Read.l0 k y0 y1 y2 y3 y4 y5 y6 y7 y8 y9 y10 y11) (umpireref14_Read.l0 (k + 1) y0 y1 y2 y3 y4 y5 y6 y7 y8 y9 y10 y11)) ∧ (∀ y0 y1 y2 y3 y4 y5 y6 y7 y8 y9 y10 y11 y12 y13 y14, LeO (umpireref14_Read.j1 k y0 y1 y2 y3 y4 y5 y6 y7 y8 y9 y10 y11 y12 y13 y14) (umpireref14_Read.j1 (k + 1) y0 y1 y2 y3 y4 y5 y6 y7 y8 y9 y10 y11 y12 y13 y14))
  | 0 => ⟨fun _ _ _ _ _ _ _ _ _ _ _ _ r h => by simp [umpireref14_Read.l0] at h, fun _ _ _ _ _ _ _ _ _ _ _ _ _ _ _ r h => by simp [umpireref14_Read.j1] at h⟩
  | k + 1 => by
    obtain ⟨ih0, ih1⟩ := umpireref14_Read.mono_l k
    refine ⟨?_, ?_⟩
    · intro y0 y1 y2 y3 y4 y5 y6 y7 y8 y9 y10 y11
      unfold umpireref14_Read.l0
      repeat' first
      | (with_reducible exact ih0 _ _ _ _ _ _ _ _ _ _ _ _)
      | (with_reducible exact ih1 _ _ _ _ _ _ _ _ _ _ _ _ _ _ _)
      | (with_reducible exact umpireref02_Get.mono _ _ _)
      | (with_reducible exact umpireref12_Find.mono _ _ _)
      | (with_reducible exact umpireref14_Right.mono _ _ _)
      | (with_reducible exact LeO.refl _)
      | (with_reducible exact LeO.none _)
      | (with_reducible refine LeO.ite ?_ ?_)
      | (with_reducible refine LeO.bind ?_ (fun _ => ?_))
      | exact ih0 _ _ _ _ _ _ _ _ _ _ _ _
      | exact ih1 _ _ _ _ _ _ _ _ _ _ _ _ _ _ _
      | exact umpireref02_Get.mono _ _ _
      | exact umpireref12_Find.mono _ _ _
      | exact umpireref14_Right.mono _ _ _
      | exact LeO.none _
      | refine LeO.ite ?_ ?_
      | refine LeO.bind ?_ (fun _ => ?_)
    · intro y0 y1 y2 y3 y4 y5 y6 y7 y8 y9 y10 y11 y12 y13 y14
      unfold umpireref14_Read.j1
      repeat' first
      | (with_reducible exact ih0 _ _ _ _ _ _ _ _ _ _ _ _)
      | (with_reducible exact ih1 _ _ _ _ _ _ _ _ _ _ _ _ _ _ _)
      | (with_reducible exact umpireref02_Get.mono _ _ _)
      | (with_reducible exact umpireref12_Find.mono _ _ _)
      | (with_reducible exact umpireref14_Right.mono _ _ _)
      | (with_reducible exact LeO.refl _)
      | (with_reducible exact LeO.none _)
      | (with_reducible refine LeO.ite ?_ ?_)
      | (with_reducible refine LeO.bind ?_ (fun _ => ?_))
      | exact ih0 _ _ _ _ _ _ _ _ _ _ _ _
      | exact ih1 _ _ _ _ _ _ _ _ _ _ _ _ _ _ _
      | exact umpireref02_Get.mono _ _ _
      | exact umpireref12_Find.mono _ _ _
      | exact umpireref14_Right.mono _ _ _
      | exact LeO.none _
      | refine LeO.ite ?_ ?_
      | refine LeO.bind ?_ (fun _ => ?_)
theorem umpireref14_Read.mono : ∀ a0 k, LeO (umpireref14_Read.f k a0) (umpireref14_Read.f (k + 1) a0) := by
  intro a0 k
  obtain ⟨ih0, ih1⟩ := umpireref14_Read.mono_l k
  unfold umpireref14_Read.f
  repeat' first
      | (with_reducible exact ih0 _ _ _ _ _ _ _ _ _ _ _ _)
      | (with_reducible exact ih1 _ _ _ _ _ _ _ _ _ _ _ _ _ _ _)
      | (with_reducible exact umpireref02_Get.mono _ _ _)
      | (with_reducible exact umpireref12_Find.mono _ _ _)
      | (with_reducible exact umpireref14_Right.mono _ _ _)
      | (with_reducible exact LeO.refl _)
      | (with_reducible exact LeO.none _)
      | (with_reducible refine LeO.ite ?_ ?_)
      | (with_reducible refine LeO.bind ?_ (fun _ => ?_))
      | exact ih0 _ _ _ _ _ _ _ _ _ _ _ _
      | exact ih1 _ _ _ _ _ _ _ _ _ _ _ _ _ _ _
      | exact umpireref02_Get.mono _ _ _
      | exact umpireref12_Find.mono _ _ _
      | exact umpireref14_Right.mono _ _ _
      | exact LeO.none _
      | refine LeO.ite ?_ ?_
      | refine LeO.bind ?_ (fun _ => ?_)
def umpireref14_Read.T6 : Bool × List (List Nat × List Nat) := (true, [([], []), ([0], [0]), ([1], [1]), ([2, 1], [2]), ([3], [3]), ([3], [3]), ([4, 5, 3], [3, 4, 5]), ([3], [3]), ([7, 3], [3, 7]), ([6, 8, 3, 3], [3, 6, 8]), ([9, 3], [3, 9]), ([3, 10], [3, 10])])
def umpireref14_Read.B6 : List Nat := [0, 1, 3, 7, 15, 15, 63, 15, 143, 511, 1023, 2047]
theorem umpireref14_Read.tab6 : rtab .any (opsOf Try.f33 6) = umpireref14_Read.T6 := by kernel_rfl
theorem umpireref14_Read.bits6 : waitsOk umpireref14_Read.T6.2 umpireref14_Read.B6 = true := by kernel_rfl
set_option maxHeartbeats 8000000 in
set_option maxRecDepth 100000 in
theorem umpireref14_Read.calls (k : Nat) (A0 : Option Addr) (c0 : Nat) (l0 : List (S55)) (r1 : Bool) (r2 : Int) (r3 : Bool) (r4 : Int) (r5 : Int) (r6 : Bool) (r7 : Bool) (r8 : Int) (r9 : Bool) (r10 : Bool) (r11 : Bool) (w : World) (hr0 : Kd.C k55 w A0 l0.length l0) (hc0 : l0.length ≤ c0) (h : umpireref14_Read.f k l0 = some (r1, r2, r3, r4, r5, r6, r7, r8, r9, r10, r11)) :
    Calls Try.prog 33 #[.slice A0 l0.length c0] w fun e w' => e = .returned (.tuple #[.agg #[.bool r1, .int .i64 r2, .bool r3, .int .u32 r4, .int .i64 r5, .bool r6, .bool r7, .int .u32 r8, .bool r9, .bool r10], .bool r11]) ∧ Below w.heap.size w w' := by
  have hu61 := Try.underlying61
  have hu55 := Try.underlying55
  have HR0 := Aside0.mk hr0
  have HC0 := Aside0.mk hc0
  clear hr0 hc0
  have HB := Aside0.mk (Below.refl w.heap.size w)
  have H : (umpireref14_Read.l0 k l0 0 false 0 false 0 0 false false 0 false false) = some (r1, r2, r3, r4, r5, r6, r7, r8, r9, r10, r11) := h
  clear h
  have H' := Aside0.mk H
  clear H
  go_enter Try.func33, Try.ntmps33
  go_wp2_with (first | ((with_reducible refine gate_dst (N := 2) rfl ?_); refine box_event ?hg (N := 2) ?hd (cs := #[.bool false, .int .i64 0, .bool false, .int .u32 0, .int .i64 0, .bool false, .bool false, .int .u32 0, .bool false, .bool false]) (t := 61) ?hr ?_; (case hd => rfl); (case hg => rfl); (case hr => first | (go_simp; done) | (go_simp; rfl)); intro gb652 hg w2 hbox hb; have n0_ := Aside0.mk (below_step (by repeat (first | (with_reducible first | exact HB.out | apply below_alloc | apply pw_below_drewN | apply below_drew1) | exact HB.out)) hb); have n1_ := Aside0.mk (hbox); have n2_ := Aside0.mk ((by rw [hg]; exact (below_size (by repeat (first | (with_reducible first | exact HB.out | apply below_alloc | apply pw_below_drewN | apply below_drew1) | exact HB.out))) : w.heap.size ≤ gb652)); have n3_ := Aside0.mk ((by rw [hg]; exact (below_size (by repeat (first | (with_reducible first | exact HB.out | apply below_alloc | apply pw_below_drewN | apply below_drew1) | exact HB.out))) : w.heap.size ≤ gb652)); clear HB; have HB := n0_; have BK652 := n1_; have GW652 := n2_; have GE652 := n3_; clear n0_ n1_ n2_ n3_; clear hb hbox hg) | ((with_reducible refine gate_dst (N := 4) rfl ?_); refine box_event ?hg (N := 4) ?hd (cs := #[.bool false, .int .i64 0, .bool false, .int .u32 0, .int .i64 0, .bool false, .bool false, .int .u32 0, .bool false, .bool false]) (t := 61) ?hr ?_; (case hd => rfl); (case hg => rfl); (case hr => first | (go_simp; done) | (go_simp; rfl)); intro gb653 hg w3 hbox hb; have n0_ := Aside0.mk (blk_below (g := gb652) (o := .cells #[.bool false, .int .i64 0, .bool false, .int .u32 0, .int .i64 0, .bool false, .bool false, .int .u32 0, .bool false, .bool false] 61 (0, 0)) (by (with_reducible repeat (first | refine blk_drewN ?_ _ | refine blk_drew ?_ | refine blk_alloc ?_ _)); exact BK652.out) hb); have n1_ := Aside0.mk (below_step (by repeat (first | (with_reducible first | exact HB.out | apply below_alloc | apply pw_below_drewN | apply below_drew1 | refine below_set ?_ GE652.out) | exact HB.out)) hb); have n2_ := Aside0.mk (hbox); have n3_ := Aside0.mk ((by rw [hg]; exact (below_size (by repeat (first | (with_reducible first | exact HB.out | apply below_alloc | apply pw_below_drewN | apply below_drew1 | refine below_set ?_ GE652.out) | exact HB.out))) : w.heap.size ≤ gb653)); have n4_ := Aside0.mk ((by rw [hg]; exact (below_size (by repeat (first | (with_reducible first | exact HB.out | apply below_alloc | apply pw_below_drewN | apply below_drew1 | refine below_set ?_ GE652.out) | exact HB.out))) : w.heap.size ≤ gb653)); have n5_ := Aside0.mk ((by rw [hg]; exact Nat.ne_of_lt (blk_lt (g := gb652) (o := .cells #[.bool false, .int .i64 0, .bool false, .int .u32 0, .int .i64 0, .bool false, .bool false, .int .u32 0, .bool false, .bool false] 61 (0, 0)) (by (with_reducible repeat (first | refine blk_drewN ?_ _ | refine blk_drew ?_ | refine blk_alloc ?_ _)); exact BK652.out)) : gb652 ≠ gb653)); have n6_ := Aside0.mk ((by rw [hg]; exact Nat.ne_of_gt (blk_lt (g := gb652) (o := .cells #[.bool false, .int .i64 0, .bool false, .int .u32 0, .int .i64 0, .bool false, .bool false, .int .u32 0, .bool false, .bool false] 61 (0, 0)) (by (with_reducible repeat (first | refine blk_drewN ?_ _ | refine blk_drew ?_ | refine blk_alloc ?_ _)); exact BK652.out)) : gb653 ≠ gb652)); clear BK652; clear HB; have BK652 := n0_; have HB := n1_; have BK653 := n2_; have GW653 := n3_; have GE653 := n4_; have NB652_653 := n5_; have NB653_652 := n6_; clear n0_ n1_ n2_ n3_ n4_ n5_ n6_; clear hb hbox hg; have hnb4 := NB653_652.out; have hnc4 := NB652_653.out; have hcz5_0 : w3.cell? ⟨gb653, 0, none⟩ = some (.bool false) := (blk_cell BK653.out 0).trans rfl; have hcz5_1 : w3.cell? ⟨gb653, 1, none⟩ = some (.int .i64 0) := (blk_cell BK653.out 1).trans rfl; have hcz5_2 : w3.cell? ⟨gb653, 2, none⟩ = some (.bool false) := (blk_cell BK653.out 2).trans rfl; have hcz5_3 : w3.cell? ⟨gb653, 3, none⟩ = some (.int .u32 0) := (blk_cell BK653.out 3).trans rfl; have hcz5_4 : w3.cell? ⟨gb653, 4, none⟩ = some (.int .i64 0) := (blk_cell BK653.out 4).trans rfl; have hcz5_5 : w3.cell? ⟨gb653, 5, none⟩ = some (.bool false) := (blk_cell BK653.out 5).trans rfl; have hcz5_6 : w3.cell? ⟨gb653, 6, none⟩ = some (.bool false) := (blk_cell BK653.out 6).trans rfl; have hcz5_7 : w3.cell? ⟨gb653, 7, none⟩ = some (.int .u32 0) := (blk_cell BK653.out 7).trans rfl; have hcz5_8 : w3.cell? ⟨gb653, 8, none⟩ = some (.bool false) := (blk_cell BK653.out 8).trans rfl; have hcz5_9 : w3.cell? ⟨gb653, 9, none⟩ = some (.bool false) := (blk_cell BK653.out 9).trans rfl; have hfz5_0 := blk_frozen BK653.out 0; have hfz5_1 := blk_frozen BK653.out 1; have hfz5_2 := blk_frozen BK653.out 2; have hfz5_3 := blk_frozen BK653.out 3; have hfz5_4 := blk_frozen BK653.out 4; have hfz5_5 := blk_frozen BK653.out 5; have hfz5_6 := blk_frozen BK653.out 6; have hfz5_7 := blk_frozen BK653.out 7; have hfz5_8 := blk_frozen BK653.out 8; have hfz5_9 := blk_frozen BK653.out 9))
  go_loopg [5] k (fun kq v5 w' => ∃ (x5_1 : Int) (x653000_1 : Bool) (x653001_1 : Int) (x653002_1 : Bool) (x653003_1 : Int) (x653004_1 : Int) (x653005_1 : Bool) (x653006_1 : Bool) (x653007_1 : Int) (x653008_1 : Bool) (x653009_1 : Bool) (x654000_1 : Bool) (x654001_1 : Int) (x654002_1 : Bool) (x654003_1 : Int) (x654004_1 : Int) (x654005_1 : Bool) (x654006_1 : Bool) (x654007_1 : Int) (x654008_1 : Bool) (x654009_1 : Bool), v5 = .int .i64 x5_1 ∧ Aside0 (umpireref14_Read.l0 kq l0 x5_1 x654000_1 x654001_1 x654002_1 x654003_1 x654004_1 x654005_1 x654006_1 x654007_1 x654008_1 x654009_1 = some (r1, r2, r3, r4, r5, r6, r7, r8, r9, r10, r11)) ∧ Aside0 (kq ≤ k) ∧ Aside0 (w'.heap[gb652]? = some (.cells #[.bool x653000_1, .int .i64 x653001_1, .bool x653002_1, .int .u32 x653003_1, .int .i64 x653004_1, .bool x653005_1, .bool x653006_1, .int .u32 x653007_1, .bool x653008_1, .bool x653009_1] 61 (0, 0))) ∧ Aside0 (w'.heap[gb653]? = some (.cells #[.bool x654000_1, .int .i64 x654001_1, .bool x654002_1, .int .u32 x654003_1, .int .i64 x654004_1, .bool x654005_1, .bool x654006_1, .int .u32 x654007_1, .bool x654008_1, .bool x654009_1] 61 (0, 0))) ∧ Aside0 (Below w.heap.size w w'))
  case atStart => exact ⟨(0), (false), (0), (false), (0), (0), (false), (false), (0), (false), (false), (false), (0), (false), (0), (0), (false), (false), (0), (false), (false), (by first | rfl | (simp; done) | (simp [*]; done)), H', ⟨Nat.le_refl _⟩, ⟨by (with_reducible repeat (first | refine blk_drewN ?_ _ | refine blk_drew ?_ | refine blk_alloc ?_ _)); refine blk_far ?_ NB652_653.out _; (with_reducible repeat (first | refine blk_drewN ?_ _ | refine blk_drew ?_ | refine blk_alloc ?_ _)); refine blk_far ?_ NB652_653.out _; (with_reducible repeat (first | refine blk_drewN ?_ _ | refine blk_drew ?_ | refine blk_alloc ?_ _)); refine blk_far ?_ NB652_653.out _; (with_reducible repeat (first | refine blk_drewN ?_ _ | refine blk_drew ?_ | refine blk_alloc ?_ _)); refine blk_far ?_ NB652_653.out _; (with_reducible repeat (first | refine blk_drewN ?_ _ | refine blk_drew ?_ | refine blk_alloc ?_ _)); refine blk_far ?_ NB652_653.out _; (with_reducible repeat (first | refine blk_drewN ?_ _ | refine blk_drew ?_ | refine blk_alloc ?_ _)); refine blk_far ?_ NB652_653.out _; (with_reducible repeat (first | refine blk_drewN ?_ _ | refine blk_drew ?_ | refine blk_alloc ?_ _)); refine blk_far ?_ NB652_653.out _; (with_reducible repeat (first | refine blk_drewN ?_ _ | refine blk_drew ?_ | refine blk_alloc ?_ _)); refine blk_far ?_ NB652_653.out _; (with_reducible repeat (first | refine blk_drewN ?_ _ | refine blk_drew ?_ | refine blk_alloc ?_ _)); refine blk_far ?_ NB652_653.out _; (with_reducible repeat (first | refine blk_drewN ?_ _ | refine blk_drew ?_ | refine blk_alloc ?_ _)); refine blk_far ?_ NB652_653.out _; (with_reducible repeat (first | refine blk_drewN ?_ _ | refine blk_drew ?_ | refine blk_alloc ?_ _)); exact BK652.out⟩, ⟨by (with_reducible repeat (first | refine blk_drewN ?_ _ | refine blk_drew ?_ | refine blk_alloc ?_ _)); refine blk_put (cs := #[.bool false, .int .i64 0, .bool false, .int .u32 0, .int .i64 0, .bool false, .bool false, .int .u32 0, .bool false, .bool false]) ?_ 9 _ rfl; (with_reducible repeat (first | refine blk_drewN ?_ _ | refine blk_drew ?_ | refine blk_alloc ?_ _)); refine blk_put (cs := #[.bool false, .int .i64 0, .bool false, .int .u32 0, .int .i64 0, .bool false, .bool false, .int .u32 0, .bool false, .bool false]) ?_ 8 _ rfl; (with_reducible repeat (first | refine blk_drewN ?_ _ | refine blk_drew ?_ | refine blk_alloc ?_ _)); refine blk_put (cs := #[.bool false, .int .i64 0, .bool false, .int .u32 0, .int .i64 0, .bool false, .bool false, .int .u32 0, .bool false, .bool false]) ?_ 7 _ rfl; (with_reducible repeat (first | refine blk_drewN ?_ _ | refine blk_drew ?_ | refine blk_alloc ?_ _)); refine blk_put (cs := #[.bool false, .int .i64 0, .bool false, .int .u32 0, .int .i64 0, .bool false, .bool false, .int .u32 0, .bool false, .bool false]) ?_ 6 _ rfl; (with_reducible repeat (first | refine blk_drewN ?_ _ | refine blk_drew ?_ | refine blk_alloc ?_ _)); refine blk_put (cs := #[.bool false, .int .i64 0, .bool false, .int .u32 0, .int .i64 0, .bool false, .bool false, .int .u32 0, .bool false, .bool false]) ?_ 5 _ rfl; (with_reducible repeat (first | refine blk_drewN ?_ _ | refine blk_drew ?_ | refine blk_alloc ?_ _)); refine blk_put (cs := #[.bool false, .int .i64 0, .bool false, .int .u32 0, .int .i64 0, .bool false, .bool false, .int .u32 0, .bool false, .bool false]) ?_ 4 _ rfl; (with_reducible repeat (first | refine blk_drewN ?_ _ | refine blk_drew ?_ | refine blk_alloc ?_ _)); refine blk_put (cs := #[.bool false, .int .i64 0, .bool false, .int .u32 0, .int .i64 0, .bool false, .bool false, .int .u32 0, .bool false, .bool false]) ?_ 3 _ rfl; (with_reducible repeat (first | refine blk_drewN ?_ _ | refine blk_drew ?_ | refine blk_alloc ?_ _)); refine blk_put (cs := #[.bool false, .int .i64 0, .bool false, .int .u32 0, .int .i64 0, .bool false, .bool false, .int .u32 0, .bool false, .bool false]) ?_ 2 _ rfl; (with_reducible repeat (first | refine blk_drewN ?_ _ | refine blk_drew ?_ | refine blk_alloc ?_ _)); refine blk_put (cs := #[.bool false, .int .i64 0, .bool false, .int .u32 0, .int .i64 0, .bool false, .bool false, .int .u32 0, .bool false, .bool false]) ?_ 1 _ rfl; (with_reducible repeat (first | refine blk_drewN ?_ _ | refine blk_drew ?_ | refine blk_alloc ?_ _)); refine blk_put (cs := #[.bool false, .int .i64 0, .bool false, .int .u32 0, .int .i64 0, .bool false, .bool false, .int .u32 0, .bool false, .bool false]) ?_ 0 _ rfl; (with_reducible repeat (first | refine blk_drewN ?_ _ | refine blk_drew ?_ | refine blk_alloc ?_ _)); exact BK653.out⟩, ⟨by repeat (first | (with_reducible first | exact HB.out | apply below_alloc | apply pw_below_drewN | apply below_drew1 | refine below_set ?_ GE652.out | refine below_set ?_ GE653.out) | exact HB.out)⟩⟩
  case round =>
    clear H'
    try clear p2
    try clear c3
    try clear c4
    try clear hcz5_0
    try clear hcz5_1
    try clear hcz5_2
    try clear hcz5_3
    try clear hcz5_4
    try clear hcz5_5
    try clear hcz5_6
    try clear hcz5_7
    try clear hcz5_8
    try clear hcz5_9
    try clear hfz5_0
    try clear hfz5_1
    try clear hfz5_2
    try clear hfz5_3
    try clear hfz5_4
    try clear hfz5_5
    try clear hfz5_6
    try clear hfz5_7
    try clear hfz5_8
    try clear hfz5_9
    obtain ⟨x5_1, x653000_1, x653001_1, x653002_1, x653003_1, x653004_1, x653005_1, x653006_1, x653007_1, x653008_1, x653009_1, x654000_1, x654001_1, x654002_1, x654003_1, x654004_1, x654005_1, x654006_1, x654007_1, x654008_1, x654009_1, rfl, HA, HK1, BK652, BK653, HB⟩ := hrel
    cases gk with
    | zero => exact absurd HA.out (by simp [umpireref14_Read.l0])
    | succ k1 =>
      have H := HA.out
      clear HA
      simp only [umpireref14_Read.l0] at H
      by_cases c6 : x5_1 < (l0.length : Int)
      · rw [if_pos c6] at H
        have c6b0 : decide (x5_1 < (l0.length : Int)) = true := decide_eq_true c6
        clear c6
        by_cases c7 : 0 ≤ x5_1
        · rw [if_pos c7] at H
          have c7b0 : decide (0 ≤ x5_1) = true := decide_eq_true c7
          clear c7
          have HC8 := Aside0.mk H
          clear H
          have p654 : 0 ≤ (x5_1 : Int) := of_decide_eq_true (by first | (with_reducible assumption) | assumption)
          have q654 : x5_1 < (l0.length : Int) := of_decide_eq_true (by first | (with_reducible assumption) | assumption)
          obtain ⟨ad654, A654_1, c654_1, e654, hx654_0, hx654_1, hl654_1, hi654_1⟩ := at_T55 HR0.out x5_1 p654 q654
          cases e654
          replace hx654_0 := (HB.out.cell (World.block_lt_of_cell? w _ hx654_0)).trans hx654_0
          replace hx654_1 := (HB.out.cell (World.block_lt_of_cell? w _ hx654_1)).trans hx654_1
          have HR654_1 := Aside0.mk hi654_1
          have HC654_1 := Aside0.mk hl654_1
          clear hi654_1 hl654_1
          replace p654 := eq_true p654
          replace q654 := eq_true q654
          go_upto_region 6 with (first | ((with_reducible refine gate_dst (N := 6) rfl ?_); refine box_event ?hg (N := 6) ?hd (cs := #[.int .i64 0, .slice none 0 0]) (t := 55) ?hr ?_; (case hd => rfl); (case hg => rfl); (case hr => first | (go_simp; done) | (go_simp; rfl)); intro gb655 hg w9 hbox hb; have n0_ := Aside0.mk (blk_below (g := gb652) (o := .cells #[.bool x653000_1, .int .i64 x653001_1, .bool x653002_1, .int .u32 x653003_1, .int .i64 x653004_1, .bool x653005_1, .bool x653006_1, .int .u32 x653007_1, .bool x653008_1, .bool x653009_1] 61 (0, 0)) (by (with_reducible repeat (first | refine blk_drewN ?_ _ | refine blk_drew ?_ | refine blk_alloc ?_ _)); exact BK652.out) hb); have n1_ := Aside0.mk (blk_below (g := gb653) (o := .cells #[.bool x654000_1, .int .i64 x654001_1, .bool x654002_1, .int .u32 x654003_1, .int .i64 x654004_1, .bool x654005_1, .bool x654006_1, .int .u32 x654007_1, .bool x654008_1, .bool x654009_1] 61 (0, 0)) (by (with_reducible repeat (first | refine blk_drewN ?_ _ | refine blk_drew ?_ | refine blk_alloc ?_ _)); exact BK653.out) hb); have n2_ := Aside0.mk (below_step (by repeat (first | (with_reducible first | exact HB.out | apply below_alloc | apply pw_below_drewN | apply below_drew1 | refine below_set ?_ GE652.out | refine below_set ?_ GE653.out) | exact HB.out)) hb); have n3_ := Aside0.mk (hbox); have n4_ := Aside0.mk ((by rw [hg]; exact (below_size (by repeat (first | (with_reducible first | exact HB.out | apply below_alloc | apply pw_below_drewN | apply below_drew1 | refine below_set ?_ GE652.out | refine below_set ?_ GE653.out) | exact HB.out))) : w.heap.size ≤ gb655)); have n5_ := Aside0.mk ((by rw [hg]; exact (below_size (by repeat (first | (with_reducible first | exact HB.out | apply below_alloc | apply pw_below_drewN | apply below_drew1 | refine below_set ?_ GE652.out | refine below_set ?_ GE653.out) | exact HB.out))) : w.heap.size ≤ gb655)); have n6_ := Aside0.mk ((by rw [hg]; exact Nat.ne_of_lt (blk_lt (g := gb652) (o := .cells #[.bool x653000_1, .int .i64 x653001_1, .bool x653002_1, .int .u32 x653003_1, .int .i64 x653004_1, .bool x653005_1, .bool x653006_1, .int .u32 x653007_1, .bool x653008_1, .bool x653009_1] 61 (0, 0)) (by (with_reducible repeat (first | refine blk_drewN ?_ _ | refine blk_drew ?_ | refine blk_alloc ?_ _)); exact BK652.out)) : gb652 ≠ gb655)); have n7_ := Aside0.mk ((by rw [hg]; exact Nat.ne_of_gt (blk_lt (g := gb652) (o := .cells #[.bool x653000_1, .int .i64 x653001_1, .bool x653002_1, .int .u32 x653003_1, .int .i64 x653004_1, .bool x653005_1, .bool x653006_1, .int .u32 x653007_1, .bool x653008_1, .bool x653009_1] 61 (0, 0)) (by (with_reducible repeat (first | refine blk_drewN ?_ _ | refine blk_drew ?_ | refine blk_alloc ?_ _)); exact BK652.out)) : gb655 ≠ gb652)); have n8_ := Aside0.mk ((by rw [hg]; exact Nat.ne_of_lt (blk_lt (g := gb653) (o := .cells #[.bool x654000_1, .int .i64 x654001_1, .bool x654002_1, .int .u32 x654003_1, .int .i64 x654004_1, .bool x654005_1, .bool x654006_1, .int .u32 x654007_1, .bool x654008_1, .bool x654009_1] 61 (0, 0)) (by (with_reducible repeat (first | refine blk_drewN ?_ _ | refine blk_drew ?_ | refine blk_alloc ?_ _)); exact BK653.out)) : gb653 ≠ gb655)); have n9_ := Aside0.mk ((by rw [hg]; exact Nat.ne_of_gt (blk_lt (g := gb653) (o := .cells #[.bool x654000_1, .int .i64 x654001_1, .bool x654002_1, .int .u32 x654003_1, .int .i64 x654004_1, .bool x654005_1, .bool x654006_1, .int .u32 x654007_1, .bool x654008_1, .bool x654009_1] 61 (0, 0)) (by (with_reducible repeat (first | refine blk_drewN ?_ _ | refine blk_drew ?_ | refine blk_alloc ?_ _)); exact BK653.out)) : gb655 ≠ gb653)); clear BK652; clear BK653; clear HB; have BK652 := n0_; have BK653 := n1_; have HB := n2_; have BK655 := n3_; have GW655 := n4_; have GE655 := n5_; have NB652_655 := n6_; have NB655_652 := n7_; have NB653_655 := n8_; have NB655_653 := n9_; clear n0_ n1_ n2_ n3_ n4_ n5_ n6_ n7_ n8_ n9_; clear hb hbox hg; have hnb10 := NB655_652.out; have hnc10 := NB652_655.out; have hnb11 := NB655_653.out; have hnc11 := NB653_655.out; have hcz12_0 : w9.cell? ⟨gb655, 0, none⟩ = some (.int .i64 0) := (blk_cell BK655.out 0).trans rfl; have hcz12_1 : w9.cell? ⟨gb655, 1, none⟩ = some (.slice none 0 0) := (blk_cell BK655.out 1).trans rfl; have hfz12_0 := blk_frozen BK655.out 0; have hfz12_1 := blk_frozen BK655.out 1))
          (try simp only [Act.put, List.setIfInBounds_toArray, List.set_cons_zero, List.set_cons_succ])
          go_cut [29] (fun v29 wc => ∃ (kq : Nat) (x29_7 : Bool), v29 = .bool x29_7 ∧ Aside0 (umpireref14_Read.j1 kq l0 x5_1 x29_7 x654000_1 x654001_1 x654002_1 x654003_1 x654004_1 x654005_1 x654006_1 x654007_1 x654008_1 x654009_1 ((rd_T55 l0 x5_1).f0) ((rd_T55 l0 x5_1).f1) = some (r1, r2, r3, r4, r5, r6, r7, r8, r9, r10, r11)) ∧ Aside0 (kq ≤ k1) ∧ Aside0 (wc.heap[gb652]? = some (.cells #[.bool x653000_1, .int .i64 x653001_1, .bool x653002_1, .int .u32 x653003_1, .int .i64 x653004_1, .bool x653005_1, .bool x653006_1, .int .u32 x653007_1, .bool x653008_1, .bool x653009_1] 61 (0, 0))) ∧ Aside0 (wc.heap[gb653]? = some (.cells #[.bool x654000_1, .int .i64 x654001_1, .bool x654002_1, .int .u32 x654003_1, .int .i64 x654004_1, .bool x654005_1, .bool x654006_1, .int .u32 x654007_1, .bool x654008_1, .bool x654009_1] 61 (0, 0))) ∧ Aside0 (wc.heap[gb655]? = some (.cells #[.int .i64 ((rd_T55 l0 x5_1).f0), (.slice A654_1 ((rd_T55 l0 x5_1).f1).length c654_1)] 55 (0, 0))) ∧ Aside0 (Below w.heap.size w wc))
          case first =>
            have H := HC8.out
            clear HC8
            replace H := Option.bind_eq_some_iff.mp H
            obtain ⟨t656, A130, H⟩ := H
            replace H : (if t656 = true then (if x5_1 ≤ (l0.length : Int) then ((umpireref12_Find.f k1 (l0.take (x5_1 : Int).toNat) ((rd_T55 l0 x5_1).f0)).bind fun t661 => (umpireref14_Read.j1 k1 l0 x5_1 (decide (t661 ≥ 0)) x654000_1 x654001_1 x654002_1 x654003_1 x654004_1 x654005_1 x654006_1 x654007_1 x654008_1 x654009_1 ((rd_T55 l0 x5_1).f0) ((rd_T55 l0 x5_1).f1))) else (none)) else (umpireref14_Read.j1 k1 l0 x5_1 true x654000_1 x654001_1 x654002_1 x654003_1 x654004_1 x654005_1 x654006_1 x654007_1 x654008_1 x654009_1 ((rd_T55 l0 x5_1).f0) ((rd_T55 l0 x5_1).f1))) = some (r1, r2, r3, r4, r5, r6, r7, r8, r9, r10, r11) := H
            have A13 := Aside0.mk A130
            clear A130
            by_cases c14 : t656 = true
            · subst c14
              have H1 : (if x5_1 ≤ (l0.length : Int) then ((umpireref12_Find.f k1 (l0.take (x5_1 : Int).toNat) ((rd_T55 l0 x5_1).f0)).bind fun t661 => (umpireref14_Read.j1 k1 l0 x5_1 (decide (t661 ≥ 0)) x654000_1 x654001_1 x654002_1 x654003_1 x654004_1 x654005_1 x654006_1 x654007_1 x654008_1 x654009_1 ((rd_T55 l0 x5_1).f0) ((rd_T55 l0 x5_1).f1))) else (none)) = some (r1, r2, r3, r4, r5, r6, r7, r8, r9, r10, r11) := by rw [if_pos rfl] at H; exact H
              clear H
              have H := H1
              clear H1
              have c15b0 := eq_true (of_decide_eq_true (by first | (with_reducible assumption) | assumption) : 0 ≤ x5_1)
              by_cases c16 : x5_1 ≤ (l0.length : Int)
              · rw [if_pos c16] at H
                have c16b0 := eq_true c16
                have c16b1 : decide (x5_1 ≤ (l0.length : Int)) = true := decide_eq_true c16
                clear c16
                obtain ⟨y657, hy657⟩ : ∃ y_ : List (S55), y_ = (l0.take (x5_1 : Int).toNat) := ⟨_, rfl⟩
                replace H : ((umpireref12_Find.f k1 y657 ((rd_T55 l0 x5_1).f0)).bind fun t661 => (umpireref14_Read.j1 k1 l0 x5_1 (decide (t661 ≥ 0)) x654000_1 x654001_1 x654002_1 x654003_1 x654004_1 x654005_1 x654006_1 x654007_1 x654008_1 x654009_1 ((rd_T55 l0 x5_1).f0) ((rd_T55 l0 x5_1).f1))) = some (r1, r2, r3, r4, r5, r6, r7, r8, r9, r10, r11) := by first | (rw [hy657]; with_reducible exact H) | (have H2_ := (Option.bind_some _ _).symm.trans H; rw [hy657]; with_reducible exact H2_) | (have H2_ := (Option.bind_some _ _).symm.trans H; with_reducible exact H2_) | with_reducible exact H | (rw [hy657]; exact H) | exact H
                have Ny657 := Aside0.mk hy657
                clear hy657
                replace H := Option.bind_eq_some_iff.mp H
                obtain ⟨t661, A170, H⟩ := H
                replace H : (umpireref14_Read.j1 k1 l0 x5_1 (decide (t661 ≥ 0)) x654000_1 x654001_1 x654002_1 x654003_1 x654004_1 x654005_1 x654006_1 x654007_1 x654008_1 x654009_1 ((rd_T55 l0 x5_1).f0) ((rd_T55 l0 x5_1).f1)) = some (r1, r2, r3, r4, r5, r6, r7, r8, r9, r10, r11) := H
                have A17 := Aside0.mk A170
                clear A170
                have H' := Aside0.mk H
                clear H
                try go_wp2
                have n0_ : Aside0 (((w9.setCell ⟨gb655, 0, none⟩ (.int .i64 ((rd_T55 l0 x5_1).f0))).setCell ⟨gb655, 1, none⟩ (.slice A654_1 ((rd_T55 l0 x5_1).f1).length c654_1)).heap[gb652]? = some (.cells #[.bool x653000_1, .int .i64 x653001_1, .bool x653002_1, .int .u32 x653003_1, .int .i64 x653004_1, .bool x653005_1, .bool x653006_1, .int .u32 x653007_1, .bool x653008_1, .bool x653009_1] 61 (0, 0))) := ⟨by (with_reducible repeat (first | refine blk_drewN ?_ _ | refine blk_drew ?_ | refine blk_alloc ?_ _)); refine blk_far ?_ NB652_655.out _; (with_reducible repeat (first | refine blk_drewN ?_ _ | refine blk_drew ?_ | refine blk_alloc ?_ _)); refine blk_far ?_ NB652_655.out _; (with_reducible repeat (first | refine blk_drewN ?_ _ | refine blk_drew ?_ | refine blk_alloc ?_ _)); exact BK652.out⟩
                have n1_ : Aside0 (((w9.setCell ⟨gb655, 0, none⟩ (.int .i64 ((rd_T55 l0 x5_1).f0))).setCell ⟨gb655, 1, none⟩ (.slice A654_1 ((rd_T55 l0 x5_1).f1).length c654_1)).heap[gb653]? = some (.cells #[.bool x654000_1, .int .i64 x654001_1, .bool x654002_1, .int .u32 x654003_1, .int .i64 x654004_1, .bool x654005_1, .bool x654006_1, .int .u32 x654007_1, .bool x654008_1, .bool x654009_1] 61 (0, 0))) := ⟨by (with_reducible repeat (first | refine blk_drewN ?_ _ | refine blk_drew ?_ | refine blk_alloc ?_ _)); refine blk_far ?_ NB653_655.out _; (with_reducible repeat (first | refine blk_drewN ?_ _ | refine blk_drew ?_ | refine blk_alloc ?_ _)); refine blk_far ?_ NB653_655.out _; (with_reducible repeat (first | refine blk_drewN ?_ _ | refine blk_drew ?_ | refine blk_alloc ?_ _)); exact BK653.out⟩
                have n2_ : Aside0 (((w9.setCell ⟨gb655, 0, none⟩ (.int .i64 ((rd_T55 l0 x5_1).f0))).setCell ⟨gb655, 1, none⟩ (.slice A654_1 ((rd_T55 l0 x5_1).f1).length c654_1)).heap[gb655]? = some (.cells #[.int .i64 ((rd_T55 l0 x5_1).f0), .slice A654_1 ((rd_T55 l0 x5_1).f1).length c654_1] 55 (0, 0))) := ⟨by (with_reducible repeat (first | refine blk_drewN ?_ _ | refine blk_drew ?_ | refine blk_alloc ?_ _)); refine blk_put (cs := #[.int .i64 ((rd_T55 l0 x5_1).f0), .slice none 0 0]) ?_ 1 _ rfl; (with_reducible repeat (first | refine blk_drewN ?_ _ | refine blk_drew ?_ | refine blk_alloc ?_ _)); refine blk_put (cs := #[.int .i64 0, .slice none 0 0]) ?_ 0 _ rfl; (with_reducible repeat (first | refine blk_drewN ?_ _ | refine blk_drew ?_ | refine blk_alloc ?_ _)); exact BK655.out⟩
                have n3_ : Aside0 (Below w.heap.size w ((w9.setCell ⟨gb655, 0, none⟩ (.int .i64 ((rd_T55 l0 x5_1).f0))).setCell ⟨gb655, 1, none⟩ (.slice A654_1 ((rd_T55 l0 x5_1).f1).length c654_1))) := ⟨by repeat (first | (with_reducible first | exact HB.out | apply below_alloc | apply pw_below_drewN | apply below_drew1 | refine below_set ?_ GE652.out | refine below_set ?_ GE653.out | refine below_set ?_ GE655.out) | exact HB.out)⟩
                (try clear BK652)
                (try clear BK653)
                (try clear BK655)
                (try clear HB)
                generalize ((w9.setCell ⟨gb655, 0, none⟩ (.int .i64 ((rd_T55 l0 x5_1).f0))).setCell ⟨gb655, 1, none⟩ (.slice A654_1 ((rd_T55 l0 x5_1).f1).length c654_1)) = w18 at n0_ n1_ n2_ n3_ ⊢
                have BK652 := n0_
                have BK653 := n1_
                have BK655 := n2_
                have HB := n3_
                clear n0_ n1_ n2_ n3_
                have n0_ := Aside0.mk (blk_drew BK652.out)
                have n1_ := Aside0.mk (blk_drew BK653.out)
                have n2_ := Aside0.mk (blk_drew BK655.out)
                have n3_ := Aside0.mk (below_drew1 HB.out)
                clear BK652
                clear BK653
                clear BK655
                clear HB
                have BK652 := n0_
                have BK653 := n1_
                have BK655 := n2_
                have HB := n3_
                clear n0_ n1_ n2_ n3_
                refine start_ (n := 12) (S := fun w' => w'.cell? ⟨gb655, 0, none⟩ = some (.int .i64 ((rd_T55 l0 x5_1).f0)) ∧ w'.cell? ⟨gb655, 1, none⟩ = some (.slice A654_1 ((rd_T55 l0 x5_1).f1).length c654_1)) (ds := []) #[false, false, false, false, false, false, false, false, false, false, false, false] (by kernel_rfl) rfl rfl ⟨(blk_cell BK655.out 0).trans rfl, (blk_cell BK655.out 1).trans rfl⟩ (fun hHeld => ?_); refine with_tabW umpireref14_Read.tab6 umpireref14_Read.bits6 (fun HT_ HW_ => ?_)
                generalize w18.drew = w19 at BK652 BK653 BK655 HB hHeld ⊢
                refine take_ (i := 0) (N := some 18) (v := ?_) (a' := ?_) #[true, false, false, false, false, false, false, false, false, false, false, false] rfl rfl (take_ofW HT_.out HW_.out (by kernel_rfl)) (fun _ _ _ h => h) (Or.inl ⟨by rfl, ?_⟩) hHeld ?_ ?_
                rotate_left
                · rintro w' ⟨s0, s1⟩
                  go_simp
                  with_reducible rfl
                rotate_left
                · simp only [Act.put, List.setIfInBounds_toArray, List.set_cons_zero, List.set_cons_succ, i64_w, i32_w]
                  rfl
                refine one_ (i := 1) (N := some 19) #[true, true, false, false, false, false, false, false, false, false, false, false] rfl rfl (one_of HT_.out (by kernel_rfl)) (by decide) (fun K hK => ?_)
                refine goes_ Try.func30 (by kernel_rfl) rfl #[.agg #[.int .i64 ((rd_T55 l0 x5_1).f0), .slice A654_1 ((rd_T55 l0 x5_1).f1).length c654_1]] (by rfl) rfl rfl (by (try simp only [List.map_toArray, List.map_cons, List.map_nil]); first | done | rfl | (simp only [List.length_drop, List.length_take]; rfl)) ?_
                with_reducible refine (umpireref14_Right.calls k1 ((rd_T55 l0 x5_1).f0) _ _ ((rd_T55 l0 x5_1).f1) true _ ?side1 ?side2 A13.out).mono ?_
                (case side1 => repeat (first | exact (Kd.C_below HR654_1.out HB.out) | (with_reducible refine Kd.C_alloc ?_ _) | (with_reducible refine Kd.C_drewN ?_ _) | (with_reducible refine Kd.C_drew ?_)))
                (case side2 => exact HC654_1.out)
                rintro e w20 ⟨rfl, hb⟩
                refine ⟨_, rfl, ?_⟩
                have n0_ := Aside0.mk (blk_below (g := gb652) (o := .cells #[.bool x653000_1, .int .i64 x653001_1, .bool x653002_1, .int .u32 x653003_1, .int .i64 x653004_1, .bool x653005_1, .bool x653006_1, .int .u32 x653007_1, .bool x653008_1, .bool x653009_1] 61 (0, 0)) (by (with_reducible repeat (first | refine blk_drewN ?_ _ | refine blk_drew ?_ | refine blk_alloc ?_ _)); exact BK652.out) hb)
                have n1_ := Aside0.mk (blk_below (g := gb653) (o := .cells #[.bool x654000_1, .int .i64 x654001_1, .bool x654002_1, .int .u32 x654003_1, .int .i64 x654004_1, .bool x654005_1, .bool x654006_1, .int .u32 x654007_1, .bool x654008_1, .bool x654009_1] 61 (0, 0)) (by (with_reducible repeat (first | refine blk_drewN ?_ _ | refine blk_drew ?_ | refine blk_alloc ?_ _)); exact BK653.out) hb)
                have n2_ := Aside0.mk (blk_below (g := gb655) (o := .cells #[.int .i64 ((rd_T55 l0 x5_1).f0), .slice A654_1 ((rd_T55 l0 x5_1).f1).length c654_1] 55 (0, 0)) (by (with_reducible repeat (first | refine blk_drewN ?_ _ | refine blk_drew ?_ | refine blk_alloc ?_ _)); exact BK655.out) hb)
                have n3_ := Aside0.mk (below_step (by repeat (first | (with_reducible first | exact HB.out | apply below_alloc | apply pw_below_drewN | apply below_drew1 | refine below_set ?_ GE652.out | refine below_set ?_ GE653.out | refine below_set ?_ GE655.out) | exact HB.out)) hb)
                clear BK652
                clear BK653
                clear BK655
                clear HB
                have BK652 := n0_
                have BK653 := n1_
                have BK655 := n2_
                have HB := n3_
                clear n0_ n1_ n2_ n3_
                (try clear hb)
                (try clear hb2)
                (try clear hk)
                (try clear hi)
                have q21 : (x5_1 : Int) ≤ ((l0.length : Int) : Int) := of_decide_eq_true (by first | (with_reducible assumption) | assumption)
                obtain ⟨i021, hi021, _, hsz21, _⟩ := info_parts info55
                have hroom21 : l0.length ≤ c0 := HC0.out
                have hC21 : Kd.C k55 _ (some ad654) l0.length l0 := HR0.out
                have hcut21 := cut_to (P := Try.prog) 58 55 .i64 Try.underlying58 hi021 (some ad654) l0.length c0 x5_1 (of_decide_eq_true (by first | (with_reducible assumption) | assumption)) q21 hroom21
                have hr21 := Kd.C_take (m := (x5_1 : Int).toNat) hC21 (by omega)
                have hy21 : y657.length = (x5_1 : Int).toNat := (by rw [Ny657.out, List.length_take]; omega)
                rw [← Ny657.out] at hr21
                rw [← hy21] at hcut21
                have HR660 := Aside0.mk hr21
                have HC660 := Aside0.mk (show y657.length ≤ c0 from by omega)
                clear hr21 hC21 hroom21 hi021 hsz21
                have KY21 := Aside0.mk hy21
                clear hy21
                replace q21 := eq_true q21
                refine hK.out _ _ ⟨(blk_cell BK655.out 0).trans rfl, (blk_cell BK655.out 1).trans rfl⟩ (fun hHeld => ?_)
                clear hK K
                refine norm_ (a' := ?_) ?_ ?_
                rotate_left
                · show Act.put _ (some 19) _ = _
                  simp only [Act.put, List.setIfInBounds_toArray, List.set_cons_zero, List.set_cons_succ, i64_w, i32_w]
                  rfl
                refine pure_ (i := 2) (N := some 20) (v := ?_) (a' := ?_) #[true, true, true, false, false, false, false, false, false, false, false, false] rfl rfl (any_of HT_.out (by kernel_rfl)) (fun _ _ _ h => h) (Or.inl ⟨by rfl, ?_⟩) ?_ ?_
                rotate_left
                · intro w'
                  go_simp
                  with_reducible rfl
                rotate_left
                · simp only [Act.put, List.setIfInBounds_toArray, List.set_cons_zero, List.set_cons_succ, i64_w, i32_w]
                  rfl
                refine pure_ (i := 3) (N := some 21) (v := ?_) (a' := ?_) #[true, true, true, true, false, false, false, false, false, false, false, false] rfl rfl (any_of HT_.out (by kernel_rfl)) (fun _ _ _ h => h) (Or.inl ⟨by rfl, ?_⟩) ?_ ?_
                rotate_left
                · intro w'
                  go_simp
                  with_reducible rfl
                rotate_left
                · simp only [Act.put, List.setIfInBounds_toArray, List.set_cons_zero, List.set_cons_succ, i64_w, i32_w]
                  rfl
                refine pure_ (i := 4) (N := some 22) (v := ?_) (a' := ?_) #[true, true, true, true, true, false, false, false, false, false, false, false] rfl rfl (any_of HT_.out (by kernel_rfl)) (fun _ _ _ h => h) (Or.inl ⟨by rfl, ?_⟩) ?_ ?_
                rotate_left
                · intro w'
                  go_simp
                  with_reducible rfl
                rotate_left
                · simp only [Act.put, List.setIfInBounds_toArray, List.set_cons_zero, List.set_cons_succ, i64_w, i32_w]
                  rfl
                refine pure_ (i := 5) (N := some 23) (v := ?_) (a' := ?_) #[true, true, true, true, true, true, false, false, false, false, false, false] rfl rfl (any_of HT_.out (by kernel_rfl)) (fun _ _ _ h => h) (Or.inl ⟨by rfl, ?_⟩) ?_ ?_
                rotate_left
                · intro w'
                  go_simp
                  with_reducible rfl
                rotate_left
                · simp only [Act.put, List.setIfInBounds_toArray, List.set_cons_zero, List.set_cons_succ, i64_w, i32_w]
                  rfl
                refine pure_ (i := 6) (N := some 24) (v := ?_) (a' := ?_) #[true, true, true, true, true, true, true, false, false, false, false, false] rfl rfl (any_of HT_.out (by kernel_rfl)) (fun _ _ _ h => h) (Or.inl ⟨by rfl, ?_⟩) ?_ ?_
                rotate_left
                · intro w'
                  go_simp
                  with_reducible rfl
                rotate_left
                · simp only [Act.put, List.setIfInBounds_toArray, List.set_cons_zero, List.set_cons_succ, i64_w, i32_w]
                  rfl
                refine pure_ (i := 7) (N := some 25) (v := ?_) (a' := ?_) #[true, true, true, true, true, true, true, true, false, false, false, false] rfl rfl (any_of HT_.out (by kernel_rfl)) (fun _ _ _ h => h) (Or.inl ⟨by rfl, ?_⟩) ?_ ?_
                rotate_left
                · intro w'
                  go_simp
                  with_reducible rfl
                rotate_left
                · simp only [Act.put, List.setIfInBounds_toArray, List.set_cons_zero, List.set_cons_succ, i64_w, i32_w]
                  rfl
                refine take_ (i := 8) (N := some 26) (v := ?_) (a' := ?_) #[true, true, true, true, true, true, true, true, true, false, false, false] rfl rfl (take_ofW HT_.out HW_.out (by kernel_rfl)) (fun _ _ _ h => h) (Or.inl ⟨by rfl, ?_⟩) hHeld ?_ ?_
                rotate_left
                · rintro w' ⟨s0, s1⟩
                  go_simp
                  with_reducible rfl
                rotate_left
                · simp only [Act.put, List.setIfInBounds_toArray, List.set_cons_zero, List.set_cons_succ, i64_w, i32_w]
                  rfl
                refine one_ (i := 9) (N := some 27) #[true, true, true, true, true, true, true, true, true, true, false, false] rfl rfl (one_of HT_.out (by kernel_rfl)) (by decide) (fun K hK => ?_)
                refine goes_ Try.func43 (by kernel_rfl) rfl #[.slice (some ad654) y657.length c0, .int .i64 ((rd_T55 l0 x5_1).f0)] (by rfl) rfl rfl (by (try simp only [List.map_toArray, List.map_cons, List.map_nil]); first | done | rfl | (simp only [List.length_drop, List.length_take]; rfl)) ?_
                with_reducible refine (umpireref12_Find.calls k1 _ _ y657 ((rd_T55 l0 x5_1).f0) t661 _ ?side1 ?side2 A17.out).mono ?_
                (case side1 => repeat (first | exact (Kd.C_below HR660.out HB.out) | (with_reducible refine Kd.C_alloc ?_ _) | (with_reducible refine Kd.C_drewN ?_ _) | (with_reducible refine Kd.C_drew ?_)))
                (case side2 => exact HC660.out)
                rintro e w' ⟨rfl, ⟨nd, rfl⟩⟩
                refine ⟨_, rfl, ?_⟩
                refine hK.out _ _ ⟨(blk_cell BK655.out 0).trans rfl, (blk_cell BK655.out 1).trans rfl⟩ (fun hHeld => ?_)
                clear hK K
                refine norm_ (a' := ?_) ?_ ?_
                rotate_left
                · show Act.put _ (some 27) _ = _
                  simp only [Act.put, List.setIfInBounds_toArray, List.set_cons_zero, List.set_cons_succ, i64_w, i32_w]
                  rfl
                refine pure_ (i := 10) (N := some 28) (v := ?_) (a' := ?_) #[true, true, true, true, true, true, true, true, true, true, true, false] rfl rfl (any_of HT_.out (by kernel_rfl)) (fun _ _ _ h => h) (Or.inl ⟨by rfl, ?_⟩) ?_ ?_
                rotate_left
                · intro w'
                  go_simp
                  with_reducible rfl
                rotate_left
                · simp only [Act.put, List.setIfInBounds_toArray, List.set_cons_zero, List.set_cons_succ, i64_w, i32_w]
                  rfl
                refine pure_ (i := 11) (N := some 29) (v := ?_) (a' := ?_) #[true, true, true, true, true, true, true, true, true, true, true, true] rfl rfl (any_of HT_.out (by kernel_rfl)) (fun _ _ _ h => h) (Or.inl ⟨by rfl, ?_⟩) ?_ ?_
                rotate_left
                · intro w'
                  go_simp
                  with_reducible rfl
                rotate_left
                · simp only [Act.put, List.setIfInBounds_toArray, List.set_cons_zero, List.set_cons_succ, i64_w, i32_w]
                  rfl
                refine done_ (done_of HT_.out (by kernel_rfl)) ?_
                try go_wp2
                go_meet
                case rel => exact ⟨_, (decide (t661 ≥ 0)), (by first | rfl | (simp; done) | (simp [*]; done)), H', ⟨by have := HK1.out; first | omega | exact Nat.le_refl _⟩, ⟨by (with_reducible repeat (first | refine blk_drewN ?_ _ | refine blk_drew ?_ | refine blk_alloc ?_ _)); exact BK652.out⟩, ⟨by (with_reducible repeat (first | refine blk_drewN ?_ _ | refine blk_drew ?_ | refine blk_alloc ?_ _)); exact BK653.out⟩, ⟨by (with_reducible repeat (first | refine blk_drewN ?_ _ | refine blk_drew ?_ | refine blk_alloc ?_ _)); exact BK655.out⟩, ⟨by repeat (first | (with_reducible first | exact HB.out | apply below_alloc | apply pw_below_drewN | apply below_drew1 | refine below_set ?_ GE652.out | refine below_set ?_ GE653.out | refine below_set ?_ GE655.out) | exact HB.out)⟩⟩
              · rw [if_neg c16] at H
                exact absurd H (by simp)
            · replace c14 := Bool.eq_false_iff.mpr c14
              subst c14
              have H1 : (umpireref14_Read.j1 k1 l0 x5_1 true x654000_1 x654001_1 x654002_1 x654003_1 x654004_1 x654005_1 x654006_1 x654007_1 x654008_1 x654009_1 ((rd_T55 l0 x5_1).f0) ((rd_T55 l0 x5_1).f1)) = some (r1, r2, r3, r4, r5, r6, r7, r8, r9, r10, r11) := by rw [if_neg (show ¬ (false = true) by decide)] at H; exact H
              clear H
              have H := H1
              clear H1
              have H' := Aside0.mk H
              clear H
              try go_wp2
              have n0_ : Aside0 (((w9.setCell ⟨gb655, 0, none⟩ (.int .i64 ((rd_T55 l0 x5_1).f0))).setCell ⟨gb655, 1, none⟩ (.slice A654_1 ((rd_T55 l0 x5_1).f1).length c654_1)).heap[gb652]? = some (.cells #[.bool x653000_1, .int .i64 x653001_1, .bool x653002_1, .int .u32 x653003_1, .int .i64 x653004_1, .bool x653005_1, .bool x653006_1, .int .u32 x653007_1, .bool x653008_1, .bool x653009_1] 61 (0, 0))) := ⟨by (with_reducible repeat (first | refine blk_drewN ?_ _ | refine blk_drew ?_ | refine blk_alloc ?_ _)); refine blk_far ?_ NB652_655.out _; (with_reducible repeat (first | refine blk_drewN ?_ _ | refine blk_drew ?_ | refine blk_alloc ?_ _)); refine blk_far ?_ NB652_655.out _; (with_reducible repeat (first | refine blk_drewN ?_ _ | refine blk_drew ?_ | refine blk_alloc ?_ _)); exact BK652.out⟩
              have n1_ : Aside0 (((w9.setCell ⟨gb655, 0, none⟩ (.int .i64 ((rd_T55 l0 x5_1).f0))).setCell ⟨gb655, 1, none⟩ (.slice A654_1 ((rd_T55 l0 x5_1).f1).length c654_1)).heap[gb653]? = some (.cells #[.bool x654000_1, .int .i64 x654001_1, .bool x654002_1, .int .u32 x654003_1, .int .i64 x654004_1, .bool x654005_1, .bool x654006_1, .int .u32 x654007_1, .bool x654008_1, .bool x654009_1] 61 (0, 0))) := ⟨by (with_reducible repeat (first | refine blk_drewN ?_ _ | refine blk_drew ?_ | refine blk_alloc ?_ _)); refine blk_far ?_ NB653_655.out _; (with_reducible repeat (first | refine blk_drewN ?_ _ | refine blk_drew ?_ | refine blk_alloc ?_ _)); refine blk_far ?_ NB653_655.out _; (with_reducible repeat (first | refine blk_drewN ?_ _ | refine blk_drew ?_ | refine blk_alloc ?_ _)); exact BK653.out⟩
              have n2_ : Aside0 (((w9.setCell ⟨gb655, 0, none⟩ (.int .i64 ((rd_T55 l0 x5_1).f0))).setCell ⟨gb655, 1, none⟩ (.slice A654_1 ((rd_T55 l0 x5_1).f1).length c654_1)).heap[gb655]? = some (.cells #[.int .i64 ((rd_T55 l0 x5_1).f0), .slice A654_1 ((rd_T55 l0 x5_1).f1).length c654_1] 55 (0, 0))) := ⟨by (with_reducible repeat (first | refine blk_drewN ?_ _ | refine blk_drew ?_ | refine blk_alloc ?_ _)); refine blk_put (cs := #[.int .i64 ((rd_T55 l0 x5_1).f0), .slice none 0 0]) ?_ 1 _ rfl; (with_reducible repeat (first | refine blk_drewN ?_ _ | refine blk_drew ?_ | refine blk_alloc ?_ _)); refine blk_put (cs := #[.int .i64 0, .slice none 0 0]) ?_ 0 _ rfl; (with_reducible repeat (first | refine blk_drewN ?_ _ | refine blk_drew ?_ | refine blk_alloc ?_ _)); exact BK655.out⟩
              have n3_ : Aside0 (Below w.heap.size w ((w9.setCell ⟨gb655, 0, none⟩ (.int .i64 ((rd_T55 l0 x5_1).f0))).setCell ⟨gb655, 1, none⟩ (.slice A654_1 ((rd_T55 l0 x5_1).f1).length c654_1))) := ⟨by repeat (first | (with_reducible first | exact HB.out | apply below_alloc | apply pw_below_drewN | apply below_drew1 | refine below_set ?_ GE652.out | refine below_set ?_ GE653.out | refine below_set ?_ GE655.out) | exact HB.out)⟩
              (try clear BK652)
              (try clear BK653)
              (try clear BK655)
              (try clear HB)
              generalize ((w9.setCell ⟨gb655, 0, none⟩ (.int .i64 ((rd_T55 l0 x5_1).f0))).setCell ⟨gb655, 1, none⟩ (.slice A654_1 ((rd_T55 l0 x5_1).f1).length c654_1)) = w22 at n0_ n1_ n2_ n3_ ⊢
              have BK652 := n0_
              have BK653 := n1_
              have BK655 := n2_
              have HB := n3_
              clear n0_ n1_ n2_ n3_
              have n0_ := Aside0.mk (blk_drew BK652.out)
              have n1_ := Aside0.mk (blk_drew BK653.out)
              have n2_ := Aside0.mk (blk_drew BK655.out)
              have n3_ := Aside0.mk (below_drew1 HB.out)
              clear BK652
              clear BK653
              clear BK655
              clear HB
              have BK652 := n0_
              have BK653 := n1_
              have BK655 := n2_
              have HB := n3_
              clear n0_ n1_ n2_ n3_
              refine start_ (n := 12) (S := fun w' => w'.cell? ⟨gb655, 0, none⟩ = some (.int .i64 ((rd_T55 l0 x5_1).f0)) ∧ w'.cell? ⟨gb655, 1, none⟩ = some (.slice A654_1 ((rd_T55 l0 x5_1).f1).length c654_1)) (ds := []) #[false, false, false, false, false, false, false, false, false, false, false, false] (by kernel_rfl) rfl rfl ⟨(blk_cell BK655.out 0).trans rfl, (blk_cell BK655.out 1).trans rfl⟩ (fun hHeld => ?_); refine with_tabW umpireref14_Read.tab6 umpireref14_Read.bits6 (fun HT_ HW_ => ?_)
              generalize w22.drew = w23 at BK652 BK653 BK655 HB hHeld ⊢
              refine take_ (i := 0) (N := some 18) (v := ?_) (a' := ?_) #[true, false, false, false, false, false, false, false, false, false, false, false] rfl rfl (take_ofW HT_.out HW_.out (by kernel_rfl)) (fun _ _ _ h => h) (Or.inl ⟨by rfl, ?_⟩) hHeld ?_ ?_
              rotate_left
              · rintro w' ⟨s0, s1⟩
                go_simp
                with_reducible rfl
              rotate_left
              · simp only [Act.put, List.setIfInBounds_toArray, List.set_cons_zero, List.set_cons_succ, i64_w, i32_w]
                rfl
              refine one_ (i := 1) (N := some 19) #[true, true, false, false, false, false, false, false, false, false, false, false] rfl rfl (one_of HT_.out (by kernel_rfl)) (by decide) (fun K hK => ?_)
              refine goes_ Try.func30 (by kernel_rfl) rfl #[.agg #[.int .i64 ((rd_T55 l0 x5_1).f0), .slice A654_1 ((rd_T55 l0 x5_1).f1).length c654_1]] (by rfl) rfl rfl (by (try simp only [List.map_toArray, List.map_cons, List.map_nil]); first | done | rfl | (simp only [List.length_drop, List.length_take]; rfl)) ?_
              with_reducible refine (umpireref14_Right.calls k1 ((rd_T55 l0 x5_1).f0) _ _ ((rd_T55 l0 x5_1).f1) false _ ?side1 ?side2 A13.out).mono ?_
              (case side1 => repeat (first | exact (Kd.C_below HR654_1.out HB.out) | (with_reducible refine Kd.C_alloc ?_ _) | (with_reducible refine Kd.C_drewN ?_ _) | (with_reducible refine Kd.C_drew ?_)))
              (case side2 => exact HC654_1.out)
              rintro e w24 ⟨rfl, hb⟩
              refine ⟨_, rfl, ?_⟩
              have n0_ := Aside0.mk (blk_below (g := gb652) (o := .cells #[.bool x653000_1, .int .i64 x653001_1, .bool x653002_1, .int .u32 x653003_1, .int .i64 x653004_1, .bool x653005_1, .bool x653006_1, .int .u32 x653007_1, .bool x653008_1, .bool x653009_1] 61 (0, 0)) (by (with_reducible repeat (first | refine blk_drewN ?_ _ | refine blk_drew ?_ | refine blk_alloc ?_ _)); exact BK652.out) hb)
              have n1_ := Aside0.mk (blk_below (g := gb653) (o := .cells #[.bool x654000_1, .int .i64 x654001_1, .bool x654002_1, .int .u32 x654003_1, .int .i64 x654004_1, .bool x654005_1, .bool x654006_1, .int .u32 x654007_1, .bool x654008_1, .bool x654009_1] 61 (0, 0)) (by (with_reducible repeat (first | refine blk_drewN ?_ _ | refine blk_drew ?_ | refine blk_alloc ?_ _)); exact BK653.out) hb)
              have n2_ := Aside0.mk (blk_below (g := gb655) (o := .cells #[.int .i64 ((rd_T55 l0 x5_1).f0), .slice A654_1 ((rd_T55 l0 x5_1).f1).length c654_1] 55 (0, 0)) (by (with_reducible repeat (first | refine blk_drewN ?_ _ | refine blk_drew ?_ | refine blk_alloc ?_ _)); exact BK655.out) hb)
              have n3_ := Aside0.mk (below_step (by repeat (first | (with_reducible first | exact HB.out | apply below_alloc | apply pw_below_drewN | apply below_drew1 | refine below_set ?_ GE652.out | refine below_set ?_ GE653.out | refine below_set ?_ GE655.out) | exact HB.out)) hb)
              clear BK652
              clear BK653
              clear BK655
              clear HB
              have BK652 := n0_
              have BK653 := n1_
              have BK655 := n2_
              have HB := n3_
              clear n0_ n1_ n2_ n3_
              (try clear hb)
              (try clear hb2)
              (try clear hk)
              (try clear hi)
              refine hK.out _ _ ⟨(blk_cell BK655.out 0).trans rfl, (blk_cell BK655.out 1).trans rfl⟩ (fun hHeld => ?_)
              clear hK K
              refine norm_ (a' := ?_) ?_ ?_
              rotate_left
              · show Act.put _ (some 19) _ = _
                simp only [Act.put, List.setIfInBounds_toArray, List.set_cons_zero, List.set_cons_succ, i64_w, i32_w]
                rfl
              refine pure_ (i := 2) (N := some 20) (v := ?_) (a' := ?_) #[true, true, true, false, false, false, false, false, false, false, false, false] rfl rfl (any_of HT_.out (by kernel_rfl)) (fun _ _ _ h => h) (Or.inl ⟨by rfl, ?_⟩) ?_ ?_
              rotate_left
              · intro w'
                go_simp
                with_reducible rfl
              rotate_left
              · simp only [Act.put, List.setIfInBounds_toArray, List.set_cons_zero, List.set_cons_succ, i64_w, i32_w]
                rfl
              refine pure_ (i := 3) (N := some 21) (v := ?_) (a' := ?_) #[true, true, true, true, false, false, false, false, false, false, false, false] rfl rfl (any_of HT_.out (by kernel_rfl)) (fun _ _ _ h => h) (Or.inl ⟨by rfl, ?_⟩) ?_ ?_
              rotate_left
              · intro w'
                go_simp
                with_reducible rfl
              rotate_left
              · simp only [Act.put, List.setIfInBounds_toArray, List.set_cons_zero, List.set_cons_succ, i64_w, i32_w]
                rfl
              refine pure_ (i := 4) (N := some 22) (v := undef) (a' := ?_) #[true, true, true, true, true, false, false, false, false, false, false, false] rfl rfl (any_of HT_.out (by kernel_rfl)) (fun _ _ _ h => h) (Or.inr ⟨by rfl, rfl⟩) ?_ ?_
              rotate_left
              · simp only [Act.put, List.setIfInBounds_toArray, List.set_cons_zero, List.set_cons_succ, i64_w, i32_w]
                rfl
              refine pure_ (i := 5) (N := some 23) (v := undef) (a' := ?_) #[true, true, true, true, true, true, false, false, false, false, false, false] rfl rfl (any_of HT_.out (by kernel_rfl)) (fun _ _ _ h => h) (Or.inr ⟨by rfl, rfl⟩) ?_ ?_
              rotate_left
              · simp only [Act.put, List.setIfInBounds_toArray, List.set_cons_zero, List.set_cons_succ, i64_w, i32_w]
                rfl
              refine pure_ (i := 6) (N := some 24) (v := undef) (a' := ?_) #[true, true, true, true, true, true, true, false, false, false, false, false] rfl rfl (any_of HT_.out (by kernel_rfl)) (fun _ _ _ h => h) (Or.inr ⟨by rfl, rfl⟩) ?_ ?_
              rotate_left
              · simp only [Act.put, List.setIfInBounds_toArray, List.set_cons_zero, List.set_cons_succ, i64_w, i32_w]
                rfl
              refine pure_ (i := 7) (N := some 25) (v := undef) (a' := ?_) #[true, true, true, true, true, true, true, true, false, false, false, false] rfl rfl (any_of HT_.out (by kernel_rfl)) (fun _ _ _ h => h) (Or.inr ⟨by rfl, rfl⟩) ?_ ?_
              rotate_left
              · simp only [Act.put, List.setIfInBounds_toArray, List.set_cons_zero, List.set_cons_succ, i64_w, i32_w]
                rfl
              refine pure_ (i := 8) (N := some 26) (v := undef) (a' := ?_) #[true, true, true, true, true, true, true, true, true, false, false, false] rfl rfl (any_of HT_.out (by kernel_rfl)) (fun _ _ _ h => h) (Or.inr ⟨by rfl, rfl⟩) ?_ ?_
              rotate_left
              · simp only [Act.put, List.setIfInBounds_toArray, List.set_cons_zero, List.set_cons_succ, i64_w, i32_w]
                rfl
              refine pure_ (i := 9) (N := some 27) (v := undef) (a' := ?_) #[true, true, true, true, true, true, true, true, true, true, false, false] rfl rfl (any_of HT_.out (by kernel_rfl)) (fun _ _ _ h => h) (Or.inr ⟨by rfl, rfl⟩) ?_ ?_
              rotate_left
              · simp only [Act.put, List.setIfInBounds_toArray, List.set_cons_zero, List.set_cons_succ, i64_w, i32_w]
                rfl
              refine pure_ (i := 10) (N := some 28) (v := undef) (a' := ?_) #[true, true, true, true, true, true, true, true, true, true, true, false] rfl rfl (any_of HT_.out (by kernel_rfl)) (fun _ _ _ h => h) (Or.inr ⟨by rfl, rfl⟩) ?_ ?_
              rotate_left
              · simp only [Act.put, List.setIfInBounds_toArray, List.set_cons_zero, List.set_cons_succ, i64_w, i32_w]
                rfl
              refine pure_ (i := 11) (N := some 29) (v := ?_) (a' := ?_) #[true, true, true, true, true, true, true, true, true, true, true, true] rfl rfl (any_of HT_.out (by kernel_rfl)) (fun _ _ _ h => h) (Or.inl ⟨by rfl, ?_⟩) ?_ ?_
              rotate_left
              · intro w'
                go_simp
                with_reducible rfl
              rotate_left
              · simp only [Act.put, List.setIfInBounds_toArray, List.set_cons_zero, List.set_cons_succ, i64_w, i32_w]
                rfl
              refine done_ (done_of HT_.out (by kernel_rfl)) ?_
              try go_wp2
              go_meet
              case rel => exact ⟨_, (true), (by first | rfl | (simp; done) | (simp [*]; done)), H', ⟨by have := HK1.out; first | omega | exact Nat.le_refl _⟩, ⟨by (with_reducible repeat (first | refine blk_drewN ?_ _ | refine blk_drew ?_ | refine blk_alloc ?_ _)); exact BK652.out⟩, ⟨by (with_reducible repeat (first | refine blk_drewN ?_ _ | refine blk_drew ?_ | refine blk_alloc ?_ _)); exact BK653.out⟩, ⟨by (with_reducible repeat (first | refine blk_drewN ?_ _ | refine blk_drew ?_ | refine blk_alloc ?_ _)); exact BK655.out⟩, ⟨by repeat (first | (with_reducible first | exact HB.out | apply below_alloc | apply pw_below_drewN | apply below_drew1 | refine below_set ?_ GE652.out | refine below_set ?_ GE653.out | refine below_set ?_ GE655.out) | exact HB.out)⟩⟩
          case rest =>
            clear HC8
            try clear c1
            try clear p2
            try clear q2
            try clear c3
            try clear c4
            try clear c6
            try clear c6b0
            try clear p6
            try clear q6
            try clear hx6
            try clear c7
            try clear c7b0
            try clear c10
            try clear c11
            try clear c14
            try clear c15
            try clear c15b0
            try clear c16
            try clear c16b0
            try clear c16b1
            try clear q21
            try clear hcz12_0
            try clear hcz12_1
            try clear hcz5_0
            try clear hcz5_1
            try clear hcz5_2
            try clear hcz5_3
            try clear hcz5_4
            try clear hcz5_5
            try clear hcz5_6
            try clear hcz5_7
            try clear hcz5_8
            try clear hcz5_9
            try clear hfz12_0
            try clear hfz12_1
            try clear hfz5_0
            try clear hfz5_1
            try clear hfz5_2
            try clear hfz5_3
            try clear hfz5_4
            try clear hfz5_5
            try clear hfz5_6
            try clear hfz5_7
            try clear hfz5_8
            try clear hfz5_9
            try clear hx654_0
            try clear hx654_1
            try clear p2
            try clear p654
            try clear q21
            try clear q654
            obtain ⟨kq, x29_7, rfl, HA, HJ7, BK652, BK653, BK655, HB⟩ := hcut
            cases kq with
            | zero => exact absurd HA.out (by simp [umpireref14_Read.j1])
            | succ kj7 =>
              have H := HA.out
              clear HA
              simp only [umpireref14_Read.j1] at H
              by_cases c25 : x29_7 = true
              · subst c25
                have H1 : (some (false, 0, false, 0, 0, false, false, 0, false, false, false)) = some (r1, r2, r3, r4, r5, r6, r7, r8, r9, r10, r11) := by rw [if_pos rfl] at H; exact H
                clear H
                have H := H1
                clear H1
                simp only [Option.some.injEq, Prod.mk.injEq] at H
                obtain ⟨rfl, rfl, rfl, rfl, rfl, rfl, rfl, rfl, rfl, rfl, rfl⟩ := H
                have hnb26 := NB652_653.out
                have hnc26 := NB653_652.out
                have hnb27 := NB652_655.out
                have hnc27 := NB655_652.out
                have hcz28_0 : wc.cell? ⟨gb652, 0, none⟩ = some (.bool x653000_1) := (blk_cell BK652.out 0).trans rfl
                have hcz28_1 : wc.cell? ⟨gb652, 1, none⟩ = some (.int .i64 x653001_1) := (blk_cell BK652.out 1).trans rfl
                have hcz28_2 : wc.cell? ⟨gb652, 2, none⟩ = some (.bool x653002_1) := (blk_cell BK652.out 2).trans rfl
                have hcz28_3 : wc.cell? ⟨gb652, 3, none⟩ = some (.int .u32 x653003_1) := (blk_cell BK652.out 3).trans rfl
                have hcz28_4 : wc.cell? ⟨gb652, 4, none⟩ = some (.int .i64 x653004_1) := (blk_cell BK652.out 4).trans rfl
                have hcz28_5 : wc.cell? ⟨gb652, 5, none⟩ = some (.bool x653005_1) := (blk_cell BK652.out 5).trans rfl
                have hcz28_6 : wc.cell? ⟨gb652, 6, none⟩ = some (.bool x653006_1) := (blk_cell BK652.out 6).trans rfl
                have hcz28_7 : wc.cell? ⟨gb652, 7, none⟩ = some (.int .u32 x653007_1) := (blk_cell BK652.out 7).trans rfl
                have hcz28_8 : wc.cell? ⟨gb652, 8, none⟩ = some (.bool x653008_1) := (blk_cell BK652.out 8).trans rfl
                have hcz28_9 : wc.cell? ⟨gb652, 9, none⟩ = some (.bool x653009_1) := (blk_cell BK652.out 9).trans rfl
                have hfz28_0 := blk_frozen BK652.out 0
                have hfz28_1 := blk_frozen BK652.out 1
                have hfz28_2 := blk_frozen BK652.out 2
                have hfz28_3 := blk_frozen BK652.out 3
                have hfz28_4 := blk_frozen BK652.out 4
                have hfz28_5 := blk_frozen BK652.out 5
                have hfz28_6 := blk_frozen BK652.out 6
                have hfz28_7 := blk_frozen BK652.out 7
                have hfz28_8 := blk_frozen BK652.out 8
                have hfz28_9 := blk_frozen BK652.out 9
                go_wp2
                refine bodyPost_ret (results_ct rfl _ _ gb652 61 #[.bool false, .int .i64 0, .bool false, .int .u32 0, .int .i64 0, .bool false, .bool false, .int .u32 0, .bool false, .bool false] (0, 0) _ rfl (by (with_reducible repeat (first | refine blk_drewN ?_ _ | refine blk_drew ?_ | refine blk_alloc ?_ _)); refine blk_put (cs := #[.bool false, .int .i64 0, .bool false, .int .u32 0, .int .i64 0, .bool false, .bool false, .int .u32 0, .bool false, .bool x653009_1]) ?_ 9 _ rfl; (with_reducible repeat (first | refine blk_drewN ?_ _ | refine blk_drew ?_ | refine blk_alloc ?_ _)); refine blk_put (cs := #[.bool false, .int .i64 0, .bool false, .int .u32 0, .int .i64 0, .bool false, .bool false, .int .u32 0, .bool x653008_1, .bool x653009_1]) ?_ 8 _ rfl; (with_reducible repeat (first | refine blk_drewN ?_ _ | refine blk_drew ?_ | refine blk_alloc ?_ _)); refine blk_put (cs := #[.bool false, .int .i64 0, .bool false, .int .u32 0, .int .i64 0, .bool false, .bool false, .int .u32 x653007_1, .bool x653008_1, .bool x653009_1]) ?_ 7 _ rfl; (with_reducible repeat (first | refine blk_drewN ?_ _ | refine blk_drew ?_ | refine blk_alloc ?_ _)); refine blk_put (cs := #[.bool false, .int .i64 0, .bool false, .int .u32 0, .int .i64 0, .bool false, .bool x653006_1, .int .u32 x653007_1, .bool x653008_1, .bool x653009_1]) ?_ 6 _ rfl; (with_reducible repeat (first | refine blk_drewN ?_ _ | refine blk_drew ?_ | refine blk_alloc ?_ _)); refine blk_put (cs := #[.bool false, .int .i64 0, .bool false, .int .u32 0, .int .i64 0, .bool x653005_1, .bool x653006_1, .int .u32 x653007_1, .bool x653008_1, .bool x653009_1]) ?_ 5 _ rfl; (with_reducible repeat (first | refine blk_drewN ?_ _ | refine blk_drew ?_ | refine blk_alloc ?_ _)); refine blk_put (cs := #[.bool false, .int .i64 0, .bool false, .int .u32 0, .int .i64 x653004_1, .bool x653005_1, .bool x653006_1, .int .u32 x653007_1, .bool x653008_1, .bool x653009_1]) ?_ 4 _ rfl; (with_reducible repeat (first | refine blk_drewN ?_ _ | refine blk_drew ?_ | refine blk_alloc ?_ _)); refine blk_put (cs := #[.bool false, .int .i64 0, .bool false, .int .u32 x653003_1, .int .i64 x653004_1, .bool x653005_1, .bool x653006_1, .int .u32 x653007_1, .bool x653008_1, .bool x653009_1]) ?_ 3 _ rfl; (with_reducible repeat (first | refine blk_drewN ?_ _ | refine blk_drew ?_ | refine blk_alloc ?_ _)); refine blk_put (cs := #[.bool false, .int .i64 0, .bool x653002_1, .int .u32 x653003_1, .int .i64 x653004_1, .bool x653005_1, .bool x653006_1, .int .u32 x653007_1, .bool x653008_1, .bool x653009_1]) ?_ 2 _ rfl; (with_reducible repeat (first | refine blk_drewN ?_ _ | refine blk_drew ?_ | refine blk_alloc ?_ _)); refine blk_put (cs := #[.bool false, .int .i64 x653001_1, .bool x653002_1, .int .u32 x653003_1, .int .i64 x653004_1, .bool x653005_1, .bool x653006_1, .int .u32 x653007_1, .bool x653008_1, .bool x653009_1]) ?_ 1 _ rfl; (with_reducible repeat (first | refine blk_drewN ?_ _ | refine blk_drew ?_ | refine blk_alloc ?_ _)); refine blk_put (cs := #[.bool x653000_1, .int .i64 x653001_1, .bool x653002_1, .int .u32 x653003_1, .int .i64 x653004_1, .bool x653005_1, .bool x653006_1, .int .u32 x653007_1, .bool x653008_1, .bool x653009_1]) ?_ 0 _ rfl; (with_reducible repeat (first | refine blk_drewN ?_ _ | refine blk_drew ?_ | refine blk_alloc ?_ _)); exact BK652.out) Try.underlying61 rfl (by kernel_rfl)) rfl ?_
                exact ⟨by first | rfl | (simp [errW_none, errW_some] <;> rfl) | (simp [*, errW_none, errW_some] <;> rfl), by repeat (first | (with_reducible first | exact HB.out | apply below_alloc | apply pw_below_drewN | apply below_drew1 | refine below_set ?_ GE652.out | refine below_set ?_ GE653.out | refine below_set ?_ GE655.out) | exact HB.out)⟩
              · replace c25 := Bool.eq_false_iff.mpr c25
                subst c25
                have H1 : (if ((rd_T55 l0 x5_1).f0) = 1 then ((umpireref02_Get.f kj7 ((rd_T55 l0 x5_1).f1) true).bind fun t662 => (umpireref14_Read.l0 kj7 l0 (wrap64 (x5_1 + 1)) true (wrap64 (t662)) x654002_1 x654003_1 x654004_1 x654005_1 x654006_1 x654007_1 x654008_1 x654009_1)) else (if ((rd_T55 l0 x5_1).f0) = 2 then ((umpireref02_Get.f kj7 ((rd_T55 l0 x5_1).f1) true).bind fun t663 => (umpireref14_Read.l0 kj7 l0 (wrap64 (x5_1 + 1)) x654000_1 x654001_1 true ((t663) % 4294967296) x654004_1 x654005_1 x654006_1 x654007_1 x654008_1 x654009_1)) else (if ((rd_T55 l0 x5_1).f0) = 3 then ((umpireref14_asks.f ((rd_T55 l0 x5_1).f1)).bind fun t664 => (umpireref14_Read.l0 kj7 l0 (wrap64 (x5_1 + 1)) x654000_1 x654001_1 x654002_1 x654003_1 t664 x654005_1 x654006_1 x654007_1 x654008_1 x654009_1)) else (if ((rd_T55 l0 x5_1).f0) = 4 then (umpireref14_Read.l0 kj7 l0 (wrap64 (x5_1 + 1)) x654000_1 x654001_1 x654002_1 x654003_1 x654004_1 true x654006_1 x654007_1 x654008_1 x654009_1) else (if ((rd_T55 l0 x5_1).f0) = 5 then ((umpireref02_Get.f kj7 ((rd_T55 l0 x5_1).f1) true).bind fun t665 => (umpireref14_Read.l0 kj7 l0 (wrap64 (x5_1 + 1)) x654000_1 x654001_1 x654002_1 x654003_1 x654004_1 x654005_1 true ((t665) % 4294967296) x654008_1 x654009_1)) else (if ((rd_T55 l0 x5_1).f0) = 7 then (umpireref14_Read.l0 kj7 l0 (wrap64 (x5_1 + 1)) x654000_1 x654001_1 x654002_1 x654003_1 x654004_1 x654005_1 x654006_1 x654007_1 true x654009_1) else (if ((rd_T55 l0 x5_1).f0) = 8 then (umpireref14_Read.l0 kj7 l0 (wrap64 (x5_1 + 1)) x654000_1 x654001_1 x654002_1 x654003_1 x654004_1 x654005_1 x654006_1 x654007_1 x654008_1 true) else (umpireref14_Read.l0 kj7 l0 (wrap64 (x5_1 + 1)) x654000_1 x654001_1 x654002_1 x654003_1 x654004_1 x654005_1 x654006_1 x654007_1 x654008_1 x654009_1)))))))) = some (r1, r2, r3, r4, r5, r6, r7, r8, r9, r10, r11) := by rw [if_neg (show ¬ (false = true) by decide)] at H; exact H
                clear H
                have H := H1
                clear H1
                by_cases c29 : ((rd_T55 l0 x5_1).f0) = 1
                · rw [if_pos c29] at H
                  have c29b0 : (((rd_T55 l0 x5_1).f0) == 1) = true := beq_iff_eq.mpr c29
                  have c29b1 : (((rd_T55 l0 x5_1).f0) != 1) = false := bne_eq_false_iff_eq.mpr c29
                  clear c29
                  replace H := Option.bind_eq_some_iff.mp H
                  obtain ⟨t662, A300, H⟩ := H
                  replace H : (umpireref14_Read.l0 kj7 l0 (wrap64 (x5_1 + 1)) true (wrap64 (t662)) x654002_1 x654003_1 x654004_1 x654005_1 x654006_1 x654007_1 x654008_1 x654009_1) = some (r1, r2, r3, r4, r5, r6, r7, r8, r9, r10, r11) := H
                  have A30 := Aside0.mk A300
                  clear A300
                  have H' := Aside0.mk H
                  clear H
                  have hnb31 := NB655_652.out
                  have hnc31 := NB652_655.out
                  have hnb32 := NB655_653.out
                  have hnc32 := NB653_655.out
                  have hcz33_0 : wc.cell? ⟨gb655, 0, none⟩ = some (.int .i64 ((rd_T55 l0 x5_1).f0)) := (blk_cell BK655.out 0).trans rfl
                  have hcz33_1 : wc.cell? ⟨gb655, 1, none⟩ = some (.slice A654_1 ((rd_T55 l0 x5_1).f1).length c654_1) := (blk_cell BK655.out 1).trans rfl
                  have hfz33_0 := blk_frozen BK655.out 0
                  have hfz33_1 := blk_frozen BK655.out 1
                  have hnb34 := NB653_652.out
                  have hnc34 := NB652_653.out
                  have hcz35_0 : wc.cell? ⟨gb653, 0, none⟩ = some (.bool x654000_1) := (blk_cell BK653.out 0).trans rfl
                  have hcz35_1 : wc.cell? ⟨gb653, 1, none⟩ = some (.int .i64 x654001_1) := (blk_cell BK653.out 1).trans rfl
                  have hcz35_2 : wc.cell? ⟨gb653, 2, none⟩ = some (.bool x654002_1) := (blk_cell BK653.out 2).trans rfl
                  have hcz35_3 : wc.cell? ⟨gb653, 3, none⟩ = some (.int .u32 x654003_1) := (blk_cell BK653.out 3).trans rfl
                  have hcz35_4 : wc.cell? ⟨gb653, 4, none⟩ = some (.int .i64 x654004_1) := (blk_cell BK653.out 4).trans rfl
                  have hcz35_5 : wc.cell? ⟨gb653, 5, none⟩ = some (.bool x654005_1) := (blk_cell BK653.out 5).trans rfl
                  have hcz35_6 : wc.cell? ⟨gb653, 6, none⟩ = some (.bool x654006_1) := (blk_cell BK653.out 6).trans rfl
                  have hcz35_7 : wc.cell? ⟨gb653, 7, none⟩ = some (.int .u32 x654007_1) := (blk_cell BK653.out 7).trans rfl
                  have hcz35_8 : wc.cell? ⟨gb653, 8, none⟩ = some (.bool x654008_1) := (blk_cell BK653.out 8).trans rfl
                  have hcz35_9 : wc.cell? ⟨gb653, 9, none⟩ = some (.bool x654009_1) := (blk_cell BK653.out 9).trans rfl
                  have hfz35_0 := blk_frozen BK653.out 0
                  have hfz35_1 := blk_frozen BK653.out 1
                  have hfz35_2 := blk_frozen BK653.out 2
                  have hfz35_3 := blk_frozen BK653.out 3
                  have hfz35_4 := blk_frozen BK653.out 4
                  have hfz35_5 := blk_frozen BK653.out 5
                  have hfz35_6 := blk_frozen BK653.out 6
                  have hfz35_7 := blk_frozen BK653.out 7
                  have hfz35_8 := blk_frozen BK653.out 8
                  have hfz35_9 := blk_frozen BK653.out 9
                  go_wp2_with (first | ((with_reducible refine gate_callee (f := 50) rfl ?_); refine goesL_ (some 38) rfl rfl Try.func50 (by kernel_rfl) rfl #[.slice A654_1 ((rd_T55 l0 x5_1).f1).length c654_1, .bool true] rfl (by (try simp only [List.map_toArray, List.map_cons, List.map_nil]); first | done | rfl | (simp only [List.length_drop, List.length_take]; rfl)) ?_; (with_reducible refine (umpireref02_Get.calls kj7 _ _ ((rd_T55 l0 x5_1).f1) true t662 _ ?side1 ?side2 A30.out).mono ?_); (case side1 => exact Kd.C_below HR654_1.out (by repeat (first | (with_reducible first | exact HB.out | apply below_alloc | apply pw_below_drewN | apply below_drew1 | refine below_set ?_ GE652.out | refine below_set ?_ GE653.out | refine below_set ?_ GE655.out) | exact HB.out))); (case side2 => exact HC654_1.out); rintro e w' ⟨rfl, ⟨nd, rfl⟩⟩; refine ⟨_, rfl, ?_⟩))
                  go_roundg kj7
                  case measure => have := HK1.out; have := HJ7.out; omega
                  case rel => exact ⟨(wrap64 (x5_1 + 1)), (x653000_1), (x653001_1), (x653002_1), (x653003_1), (x653004_1), (x653005_1), (x653006_1), (x653007_1), (x653008_1), (x653009_1), (true), (wrap64 (t662)), (x654002_1), (x654003_1), (x654004_1), (x654005_1), (x654006_1), (x654007_1), (x654008_1), (x654009_1), (by first | rfl | (simp; done) | (simp [*]; done)), H', ⟨by have := HK1.out; have := HJ7.out; omega⟩, ⟨by (with_reducible repeat (first | refine blk_drewN ?_ _ | refine blk_drew ?_ | refine blk_alloc ?_ _)); refine blk_far ?_ NB652_653.out _; (with_reducible repeat (first | refine blk_drewN ?_ _ | refine blk_drew ?_ | refine blk_alloc ?_ _)); refine blk_far ?_ NB652_653.out _; (with_reducible repeat (first | refine blk_drewN ?_ _ | refine blk_drew ?_ | refine blk_alloc ?_ _)); exact BK652.out⟩, ⟨by (with_reducible repeat (first | refine blk_drewN ?_ _ | refine blk_drew ?_ | refine blk_alloc ?_ _)); refine blk_put (cs := #[.bool true, .int .i64 x654001_1, .bool x654002_1, .int .u32 x654003_1, .int .i64 x654004_1, .bool x654005_1, .bool x654006_1, .int .u32 x654007_1, .bool x654008_1, .bool x654009_1]) ?_ 1 _ rfl; (with_reducible repeat (first | refine blk_drewN ?_ _ | refine blk_drew ?_ | refine blk_alloc ?_ _)); refine blk_put (cs := #[.bool x654000_1, .int .i64 x654001_1, .bool x654002_1, .int .u32 x654003_1, .int .i64 x654004_1, .bool x654005_1, .bool x654006_1, .int .u32 x654007_1, .bool x654008_1, .bool x654009_1]) ?_ 0 _ rfl; (with_reducible repeat (first | refine blk_drewN ?_ _ | refine blk_drew ?_ | refine blk_alloc ?_ _)); exact BK653.out⟩, ⟨by repeat (first | (with_reducible first | exact HB.out | apply below_alloc | apply pw_below_drewN | apply below_drew1 | refine below_set ?_ GE652.out | refine below_set ?_ GE653.out | refine below_set ?_ GE655.out) | exact HB.out)⟩⟩
                · rw [if_neg c29] at H
                  have c29b0 : (((rd_T55 l0 x5_1).f0) == 1) = false := beq_eq_false_iff_ne.mpr c29
                  have c29b1 : (((rd_T55 l0 x5_1).f0) != 1) = true := bne_iff_ne.mpr c29
                  by_cases c36 : ((rd_T55 l0 x5_1).f0) = 2
                  · rw [if_pos c36] at H
                    have c36b0 : (((rd_T55 l0 x5_1).f0) == 2) = true := beq_iff_eq.mpr c36
                    have c36b1 : (((rd_T55 l0 x5_1).f0) != 2) = false := bne_eq_false_iff_eq.mpr c36
                    clear c36
                    replace H := Option.bind_eq_some_iff.mp H
                    obtain ⟨t663, A370, H⟩ := H
                    replace H : (umpireref14_Read.l0 kj7 l0 (wrap64 (x5_1 + 1)) x654000_1 x654001_1 true ((t663) % 4294967296) x654004_1 x654005_1 x654006_1 x654007_1 x654008_1 x654009_1) = some (r1, r2, r3, r4, r5, r6, r7, r8, r9, r10, r11) := H
                    have A37 := Aside0.mk A370
                    clear A370
                    have H' := Aside0.mk H
                    clear H
                    have hnb38 := NB655_652.out
                    have hnc38 := NB652_655.out
                    have hnb39 := NB655_653.out
                    have hnc39 := NB653_655.out
                    have hcz40_0 : wc.cell? ⟨gb655, 0, none⟩ = some (.int .i64 ((rd_T55 l0 x5_1).f0)) := (blk_cell BK655.out 0).trans rfl
                    have hcz40_1 : wc.cell? ⟨gb655, 1, none⟩ = some (.slice A654_1 ((rd_T55 l0 x5_1).f1).length c654_1) := (blk_cell BK655.out 1).trans rfl
                    have hfz40_0 := blk_frozen BK655.out 0
                    have hfz40_1 := blk_frozen BK655.out 1
                    have hnb41 := NB653_652.out
                    have hnc41 := NB652_653.out
                    have hcz42_0 : wc.cell? ⟨gb653, 0, none⟩ = some (.bool x654000_1) := (blk_cell BK653.out 0).trans rfl
                    have hcz42_1 : wc.cell? ⟨gb653, 1, none⟩ = some (.int .i64 x654001_1) := (blk_cell BK653.out 1).trans rfl
                    have hcz42_2 : wc.cell? ⟨gb653, 2, none⟩ = some (.bool x654002_1) := (blk_cell BK653.out 2).trans rfl
                    have hcz42_3 : wc.cell? ⟨gb653, 3, none⟩ = some (.int .u32 x654003_1) := (blk_cell BK653.out 3).trans rfl
                    have hcz42_4 : wc.cell? ⟨gb653, 4, none⟩ = some (.int .i64 x654004_1) := (blk_cell BK653.out 4).trans rfl
                    have hcz42_5 : wc.cell? ⟨gb653, 5, none⟩ = some (.bool x654005_1) := (blk_cell BK653.out 5).trans rfl
                    have hcz42_6 : wc.cell? ⟨gb653, 6, none⟩ = some (.bool x654006_1) := (blk_cell BK653.out 6).trans rfl
                    have hcz42_7 : wc.cell? ⟨gb653, 7, none⟩ = some (.int .u32 x654007_1) := (blk_cell BK653.out 7).trans rfl
                    have hcz42_8 : wc.cell? ⟨gb653, 8, none⟩ = some (.bool x654008_1) := (blk_cell BK653.out 8).trans rfl
                    have hcz42_9 : wc.cell? ⟨gb653, 9, none⟩ = some (.bool x654009_1) := (blk_cell BK653.out 9).trans rfl
                    have hfz42_0 := blk_frozen BK653.out 0
                    have hfz42_1 := blk_frozen BK653.out 1
                    have hfz42_2 := blk_frozen BK653.out 2
                    have hfz42_3 := blk_frozen BK653.out 3
                    have hfz42_4 := blk_frozen BK653.out 4
                    have hfz42_5 := blk_frozen BK653.out 5
                    have hfz42_6 := blk_frozen BK653.out 6
                    have hfz42_7 := blk_frozen BK653.out 7
                    have hfz42_8 := blk_frozen BK653.out 8
                    have hfz42_9 := blk_frozen BK653.out 9
                    go_wp2_with (first | ((with_reducible refine gate_callee (f := 50) rfl ?_); refine goesL_ (some 46) rfl rfl Try.func50 (by kernel_rfl) rfl #[.slice A654_1 ((rd_T55 l0 x5_1).f1).length c654_1, .bool true] rfl (by (try simp only [List.map_toArray, List.map_cons, List.map_nil]); first | done | rfl | (simp only [List.length_drop, List.length_take]; rfl)) ?_; (with_reducible refine (umpireref02_Get.calls kj7 _ _ ((rd_T55 l0 x5_1).f1) true t663 _ ?side1 ?side2 A37.out).mono ?_); (case side1 => exact Kd.C_below HR654_1.out (by repeat (first | (with_reducible first | exact HB.out | apply below_alloc | apply pw_below_drewN | apply below_drew1 | refine below_set ?_ GE652.out | refine below_set ?_ GE653.out | refine below_set ?_ GE655.out) | exact HB.out))); (case side2 => exact HC654_1.out); rintro e w' ⟨rfl, ⟨nd, rfl⟩⟩; refine ⟨_, rfl, ?_⟩))
                    go_roundg kj7
                    case measure => have := HK1.out; have := HJ7.out; omega
                    case rel => exact ⟨(wrap64 (x5_1 + 1)), (x653000_1), (x653001_1), (x653002_1), (x653003_1), (x653004_1), (x653005_1), (x653006_1), (x653007_1), (x653008_1), (x653009_1), (x654000_1), (x654001_1), (true), ((t663) % 4294967296), (x654004_1), (x654005_1), (x654006_1), (x654007_1), (x654008_1), (x654009_1), (by first | rfl | (simp; done) | (simp [*]; done)), H', ⟨by have := HK1.out; have := HJ7.out; omega⟩, ⟨by (with_reducible repeat (first | refine blk_drewN ?_ _ | refine blk_drew ?_ | refine blk_alloc ?_ _)); refine blk_far ?_ NB652_653.out _; (with_reducible repeat (first | refine blk_drewN ?_ _ | refine blk_drew ?_ | refine blk_alloc ?_ _)); refine blk_far ?_ NB652_653.out _; (with_reducible repeat (first | refine blk_drewN ?_ _ | refine blk_drew ?_ | refine blk_alloc ?_ _)); exact BK652.out⟩, ⟨by (with_reducible repeat (first | refine blk_drewN ?_ _ | refine blk_drew ?_ | refine blk_alloc ?_ _)); refine blk_put (cs := #[.bool x654000_1, .int .i64 x654001_1, .bool true, .int .u32 x654003_1, .int .i64 x654004_1, .bool x654005_1, .bool x654006_1, .int .u32 x654007_1, .bool x654008_1, .bool x654009_1]) ?_ 3 _ rfl; (with_reducible repeat (first | refine blk_drewN ?_ _ | refine blk_drew ?_ | refine blk_alloc ?_ _)); refine blk_put (cs := #[.bool x654000_1, .int .i64 x654001_1, .bool x654002_1, .int .u32 x654003_1, .int .i64 x654004_1, .bool x654005_1, .bool x654006_1, .int .u32 x654007_1, .bool x654008_1, .bool x654009_1]) ?_ 2 _ rfl; (with_reducible repeat (first | refine blk_drewN ?_ _ | refine blk_drew ?_ | refine blk_alloc ?_ _)); exact BK653.out⟩, ⟨by repeat (first | (with_reducible first | exact HB.out | apply below_alloc | apply pw_below_drewN | apply below_drew1 | refine below_set ?_ GE652.out | refine below_set ?_ GE653.out | refine below_set ?_ GE655.out) | exact HB.out)⟩⟩
                  · rw [if_neg c36] at H
                    have c36b0 : (((rd_T55 l0 x5_1).f0) == 2) = false := beq_eq_false_iff_ne.mpr c36
                    have c36b1 : (((rd_T55 l0 x5_1).f0) != 2) = true := bne_iff_ne.mpr c36
                    by_cases c43 : ((rd_T55 l0 x5_1).f0) = 3
                    · rw [if_pos c43] at H
                      have c43b0 : (((rd_T55 l0 x5_1).f0) == 3) = true := beq_iff_eq.mpr c43
                      have c43b1 : (((rd_T55 l0 x5_1).f0) != 3) = false := bne_eq_false_iff_eq.mpr c43
                      clear c43
                      replace H := Option.bind_eq_some_iff.mp H
                      obtain ⟨t664, A440, H⟩ := H
                      replace H : (umpireref14_Read.l0 kj7 l0 (wrap64 (x5_1 + 1)) x654000_1 x654001_1 x654002_1 x654003_1 t664 x654005_1 x654006_1 x654007_1 x654008_1 x654009_1) = some (r1, r2, r3, r4, r5, r6, r7, r8, r9, r10, r11) := H
                      have A44 := Aside0.mk A440
                      clear A440
                      have H' := Aside0.mk H
                      clear H
                      have hnb45 := NB655_652.out
                      have hnc45 := NB652_655.out
                      have hnb46 := NB655_653.out
                      have hnc46 := NB653_655.out
                      have hcz47_0 : wc.cell? ⟨gb655, 0, none⟩ = some (.int .i64 ((rd_T55 l0 x5_1).f0)) := (blk_cell BK655.out 0).trans rfl
                      have hcz47_1 : wc.cell? ⟨gb655, 1, none⟩ = some (.slice A654_1 ((rd_T55 l0 x5_1).f1).length c654_1) := (blk_cell BK655.out 1).trans rfl
                      have hfz47_0 := blk_frozen BK655.out 0
                      have hfz47_1 := blk_frozen BK655.out 1
                      go_wp2_with (first | ((with_reducible refine gate_callee (f := 55) rfl ?_); refine goesL_ (some 53) rfl rfl Try.func55 (by kernel_rfl) rfl #[.slice A654_1 ((rd_T55 l0 x5_1).f1).length c654_1] rfl (by (try simp only [List.map_toArray, List.map_cons, List.map_nil]); first | done | rfl | (simp only [List.length_drop, List.length_take]; rfl)) ?_; (with_reducible refine (umpireref14_asks.calls _ _ ((rd_T55 l0 x5_1).f1) t664 _ ?side1 ?side2 A44.out).mono ?_); (case side1 => repeat (first | exact (Kd.C_below HR654_1.out HB.out) | (with_reducible refine Kd.C_alloc ?_ _) | (with_reducible refine Kd.C_drewN ?_ _) | (with_reducible refine Kd.C_drew ?_))); (case side2 => exact HC654_1.out); rintro e w' ⟨rfl, ⟨nd, rfl⟩⟩; refine ⟨_, rfl, ?_⟩; (try (rw [drewN_self wc]; generalize hq_ : World.drewN wc _ = wc; have n0_ : Aside0 (wc.heap[gb652]? = some (.cells #[.bool x653000_1, .int .i64 x653001_1, .bool x653002_1, .int .u32 x653003_1, .int .i64 x653004_1, .bool x653005_1, .bool x653006_1, .int .u32 x653007_1, .bool x653008_1, .bool x653009_1] 61 (0, 0))) := ⟨by rw [← hq_]; exact (by (with_reducible repeat (first | refine blk_drewN ?_ _ | refine blk_drew ?_ | refine blk_alloc ?_ _)); exact BK652.out)⟩; have n1_ : Aside0 (wc.heap[gb653]? = some (.cells #[.bool x654000_1, .int .i64 x654001_1, .bool x654002_1, .int .u32 x654003_1, .int .i64 x654004_1, .bool x654005_1, .bool x654006_1, .int .u32 x654007_1, .bool x654008_1, .bool x654009_1] 61 (0, 0))) := ⟨by rw [← hq_]; exact (by (with_reducible repeat (first | refine blk_drewN ?_ _ | refine blk_drew ?_ | refine blk_alloc ?_ _)); exact BK653.out)⟩; have n2_ : Aside0 (wc.heap[gb655]? = some (.cells #[.int .i64 ((rd_T55 l0 x5_1).f0), .slice A654_1 ((rd_T55 l0 x5_1).f1).length c654_1] 55 (0, 0))) := ⟨by rw [← hq_]; exact (by (with_reducible repeat (first | refine blk_drewN ?_ _ | refine blk_drew ?_ | refine blk_alloc ?_ _)); exact BK655.out)⟩; have n3_ : Aside0 (Below w.heap.size w wc) := ⟨by rw [← hq_]; exact (by repeat (first | (with_reducible first | exact HB.out | apply below_alloc | apply pw_below_drewN | apply below_drew1 | refine below_set ?_ GE652.out | refine below_set ?_ GE653.out | refine below_set ?_ GE655.out) | exact HB.out))⟩; clear BK652 BK653 BK655 HB hq_; have BK652 := n0_; have BK653 := n1_; have BK655 := n2_; have HB := n3_; clear n0_ n1_ n2_ n3_)); have hnb48 := NB653_652.out; have hnc48 := NB652_653.out; have hcz49_0 : wc.cell? ⟨gb653, 0, none⟩ = some (.bool x654000_1) := (blk_cell BK653.out 0).trans rfl; have hcz49_1 : wc.cell? ⟨gb653, 1, none⟩ = some (.int .i64 x654001_1) := (blk_cell BK653.out 1).trans rfl; have hcz49_2 : wc.cell? ⟨gb653, 2, none⟩ = some (.bool x654002_1) := (blk_cell BK653.out 2).trans rfl; have hcz49_3 : wc.cell? ⟨gb653, 3, none⟩ = some (.int .u32 x654003_1) := (blk_cell BK653.out 3).trans rfl; have hcz49_4 : wc.cell? ⟨gb653, 4, none⟩ = some (.int .i64 x654004_1) := (blk_cell BK653.out 4).trans rfl; have hcz49_5 : wc.cell? ⟨gb653, 5, none⟩ = some (.bool x654005_1) := (blk_cell BK653.out 5).trans rfl; have hcz49_6 : wc.cell? ⟨gb653, 6, none⟩ = some (.bool x654006_1) := (blk_cell BK653.out 6).trans rfl; have hcz49_7 : wc.cell? ⟨gb653, 7, none⟩ = some (.int .u32 x654007_1) := (blk_cell BK653.out 7).trans rfl; have hcz49_8 : wc.cell? ⟨gb653, 8, none⟩ = some (.bool x654008_1) := (blk_cell BK653.out 8).trans rfl; have hcz49_9 : wc.cell? ⟨gb653, 9, none⟩ = some (.bool x654009_1) := (blk_cell BK653.out 9).trans rfl; have hfz49_0 := blk_frozen BK653.out 0; have hfz49_1 := blk_frozen BK653.out 1; have hfz49_2 := blk_frozen BK653.out 2; have hfz49_3 := blk_frozen BK653.out 3; have hfz49_4 := blk_frozen BK653.out 4; have hfz49_5 := blk_frozen BK653.out 5; have hfz49_6 := blk_frozen BK653.out 6; have hfz49_7 := blk_frozen BK653.out 7; have hfz49_8 := blk_frozen BK653.out 8; have hfz49_9 := blk_frozen BK653.out 9))
                      go_roundg kj7
                      case measure => have := HK1.out; have := HJ7.out; omega
                      case rel => exact ⟨(wrap64 (x5_1 + 1)), (x653000_1), (x653001_1), (x653002_1), (x653003_1), (x653004_1), (x653005_1), (x653006_1), (x653007_1), (x653008_1), (x653009_1), (x654000_1), (x654001_1), (x654002_1), (x654003_1), (t664), (x654005_1), (x654006_1), (x654007_1), (x654008_1), (x654009_1), (by first | rfl | (simp; done) | (simp [*]; done)), H', ⟨by have := HK1.out; have := HJ7.out; omega⟩, ⟨by (with_reducible repeat (first | refine blk_drewN ?_ _ | refine blk_drew ?_ | refine blk_alloc ?_ _)); refine blk_far ?_ NB652_653.out _; (with_reducible repeat (first | refine blk_drewN ?_ _ | refine blk_drew ?_ | refine blk_alloc ?_ _)); exact BK652.out⟩, ⟨by (with_reducible repeat (first | refine blk_drewN ?_ _ | refine blk_drew ?_ | refine blk_alloc ?_ _)); refine blk_put (cs := #[.bool x654000_1, .int .i64 x654001_1, .bool x654002_1, .int .u32 x654003_1, .int .i64 x654004_1, .bool x654005_1, .bool x654006_1, .int .u32 x654007_1, .bool x654008_1, .bool x654009_1]) ?_ 4 _ rfl; (with_reducible repeat (first | refine blk_drewN ?_ _ | refine blk_drew ?_ | refine blk_alloc ?_ _)); exact BK653.out⟩, ⟨by repeat (first | (with_reducible first | exact HB.out | apply below_alloc | apply pw_below_drewN | apply below_drew1 | refine below_set ?_ GE652.out | refine below_set ?_ GE653.out | refine below_set ?_ GE655.out) | exact HB.out)⟩⟩
                    · rw [if_neg c43] at H
                      have c43b0 : (((rd_T55 l0 x5_1).f0) == 3) = false := beq_eq_false_iff_ne.mpr c43
                      have c43b1 : (((rd_T55 l0 x5_1).f0) != 3) = true := bne_iff_ne.mpr c43
                      by_cases c50 : ((rd_T55 l0 x5_1).f0) = 4
                      · rw [if_pos c50] at H
                        have c50b0 : (((rd_T55 l0 x5_1).f0) == 4) = true := beq_iff_eq.mpr c50
                        have c50b1 : (((rd_T55 l0 x5_1).f0) != 4) = false := bne_eq_false_iff_eq.mpr c50
                        clear c50
                        have H' := Aside0.mk H
                        clear H
                        have hnb51 := NB655_652.out
                        have hnc51 := NB652_655.out
                        have hnb52 := NB655_653.out
                        have hnc52 := NB653_655.out
                        have hcz53_0 : wc.cell? ⟨gb655, 0, none⟩ = some (.int .i64 ((rd_T55 l0 x5_1).f0)) := (blk_cell BK655.out 0).trans rfl
                        have hcz53_1 : wc.cell? ⟨gb655, 1, none⟩ = some (.slice A654_1 ((rd_T55 l0 x5_1).f1).length c654_1) := (blk_cell BK655.out 1).trans rfl
                        have hfz53_0 := blk_frozen BK655.out 0
                        have hfz53_1 := blk_frozen BK655.out 1
                        have hnb54 := NB653_652.out
                        have hnc54 := NB652_653.out
                        have hcz55_0 : wc.cell? ⟨gb653, 0, none⟩ = some (.bool x654000_1) := (blk_cell BK653.out 0).trans rfl
                        have hcz55_1 : wc.cell? ⟨gb653, 1, none⟩ = some (.int .i64 x654001_1) := (blk_cell BK653.out 1).trans rfl
                        have hcz55_2 : wc.cell? ⟨gb653, 2, none⟩ = some (.bool x654002_1) := (blk_cell BK653.out 2).trans rfl
                        have hcz55_3 : wc.cell? ⟨gb653, 3, none⟩ = some (.int .u32 x654003_1) := (blk_cell BK653.out 3).trans rfl
                        have hcz55_4 : wc.cell? ⟨gb653, 4, none⟩ = some (.int .i64 x654004_1) := (blk_cell BK653.out 4).trans rfl
                        have hcz55_5 : wc.cell? ⟨gb653, 5, none⟩ = some (.bool x654005_1) := (blk_cell BK653.out 5).trans rfl
                        have hcz55_6 : wc.cell? ⟨gb653, 6, none⟩ = some (.bool x654006_1) := (blk_cell BK653.out 6).trans rfl
                        have hcz55_7 : wc.cell? ⟨gb653, 7, none⟩ = some (.int .u32 x654007_1) := (blk_cell BK653.out 7).trans rfl
                        have hcz55_8 : wc.cell? ⟨gb653, 8, none⟩ = some (.bool x654008_1) := (blk_cell BK653.out 8).trans rfl
                        have hcz55_9 : wc.cell? ⟨gb653, 9, none⟩ = some (.bool x654009_1) := (blk_cell BK653.out 9).trans rfl
                        have hfz55_0 := blk_frozen BK653.out 0
                        have hfz55_1 := blk_frozen BK653.out 1
                        have hfz55_2 := blk_frozen BK653.out 2
                        have hfz55_3 := blk_frozen BK653.out 3
                        have hfz55_4 := blk_frozen BK653.out 4
                        have hfz55_5 := blk_frozen BK653.out 5
                        have hfz55_6 := blk_frozen BK653.out 6
                        have hfz55_7 := blk_frozen BK653.out 7
                        have hfz55_8 := blk_frozen BK653.out 8
                        have hfz55_9 := blk_frozen BK653.out 9
                        go_wp2
                        go_roundg kj7
                        case measure => have := HK1.out; have := HJ7.out; omega
                        case rel => exact ⟨(wrap64 (x5_1 + 1)), (x653000_1), (x653001_1), (x653002_1), (x653003_1), (x653004_1), (x653005_1), (x653006_1), (x653007_1), (x653008_1), (x653009_1), (x654000_1), (x654001_1), (x654002_1), (x654003_1), (x654004_1), (true), (x654006_1), (x654007_1), (x654008_1), (x654009_1), (by first | rfl | (simp; done) | (simp [*]; done)), H', ⟨by have := HK1.out; have := HJ7.out; omega⟩, ⟨by (with_reducible repeat (first | refine blk_drewN ?_ _ | refine blk_drew ?_ | refine blk_alloc ?_ _)); refine blk_far ?_ NB652_653.out _; (with_reducible repeat (first | refine blk_drewN ?_ _ | refine blk_drew ?_ | refine blk_alloc ?_ _)); exact BK652.out⟩, ⟨by (with_reducible repeat (first | refine blk_drewN ?_ _ | refine blk_drew ?_ | refine blk_alloc ?_ _)); refine blk_put (cs := #[.bool x654000_1, .int .i64 x654001_1, .bool x654002_1, .int .u32 x654003_1, .int .i64 x654004_1, .bool x654005_1, .bool x654006_1, .int .u32 x654007_1, .bool x654008_1, .bool x654009_1]) ?_ 5 _ rfl; (with_reducible repeat (first | refine blk_drewN ?_ _ | refine blk_drew ?_ | refine blk_alloc ?_ _)); exact BK653.out⟩, ⟨by repeat (first | (with_reducible first | exact HB.out | apply below_alloc | apply pw_below_drewN | apply below_drew1 | refine below_set ?_ GE652.out | refine below_set ?_ GE653.out | refine below_set ?_ GE655.out) | exact HB.out)⟩⟩
                      · rw [if_neg c50] at H
                        have c50b0 : (((rd_T55 l0 x5_1).f0) == 4) = false := beq_eq_false_iff_ne.mpr c50
                        have c50b1 : (((rd_T55 l0 x5_1).f0) != 4) = true := bne_iff_ne.mpr c50
                        by_cases c56 : ((rd_T55 l0 x5_1).f0) = 5
                        · rw [if_pos c56] at H
                          have c56b0 : (((rd_T55 l0 x5_1).f0) == 5) = true := beq_iff_eq.mpr c56
                          have c56b1 : (((rd_T55 l0 x5_1).f0) != 5) = false := bne_eq_false_iff_eq.mpr c56
                          clear c56
                          replace H := Option.bind_eq_some_iff.mp H
                          obtain ⟨t665, A570, H⟩ := H
                          replace H : (umpireref14_Read.l0 kj7 l0 (wrap64 (x5_1 + 1)) x654000_1 x654001_1 x654002_1 x654003_1 x654004_1 x654005_1 true ((t665) % 4294967296) x654008_1 x654009_1) = some (r1, r2, r3, r4, r5, r6, r7, r8, r9, r10, r11) := H
                          have A57 := Aside0.mk A570
                          clear A570
                          have H' := Aside0.mk H
                          clear H
                          have hnb58 := NB655_652.out
                          have hnc58 := NB652_655.out
                          have hnb59 := NB655_653.out
                          have hnc59 := NB653_655.out
                          have hcz60_0 : wc.cell? ⟨gb655, 0, none⟩ = some (.int .i64 ((rd_T55 l0 x5_1).f0)) := (blk_cell BK655.out 0).trans rfl
                          have hcz60_1 : wc.cell? ⟨gb655, 1, none⟩ = some (.slice A654_1 ((rd_T55 l0 x5_1).f1).length c654_1) := (blk_cell BK655.out 1).trans rfl
                          have hfz60_0 := blk_frozen BK655.out 0
                          have hfz60_1 := blk_frozen BK655.out 1
                          have hnb61 := NB653_652.out
                          have hnc61 := NB652_653.out
                          have hcz62_0 : wc.cell? ⟨gb653, 0, none⟩ = some (.bool x654000_1) := (blk_cell BK653.out 0).trans rfl
                          have hcz62_1 : wc.cell? ⟨gb653, 1, none⟩ = some (.int .i64 x654001_1) := (blk_cell BK653.out 1).trans rfl
                          have hcz62_2 : wc.cell? ⟨gb653, 2, none⟩ = some (.bool x654002_1) := (blk_cell BK653.out 2).trans rfl
                          have hcz62_3 : wc.cell? ⟨gb653, 3, none⟩ = some (.int .u32 x654003_1) := (blk_cell BK653.out 3).trans rfl
                          have hcz62_4 : wc.cell? ⟨gb653, 4, none⟩ = some (.int .i64 x654004_1) := (blk_cell BK653.out 4).trans rfl
                          have hcz62_5 : wc.cell? ⟨gb653, 5, none⟩ = some (.bool x654005_1) := (blk_cell BK653.out 5).trans rfl
                          have hcz62_6 : wc.cell? ⟨gb653, 6, none⟩ = some (.bool x654006_1) := (blk_cell BK653.out 6).trans rfl
                          have hcz62_7 : wc.cell? ⟨gb653, 7, none⟩ = some (.int .u32 x654007_1) := (blk_cell BK653.out 7).trans rfl
                          have hcz62_8 : wc.cell? ⟨gb653, 8, none⟩ = some (.bool x654008_1) := (blk_cell BK653.out 8).trans rfl
                          have hcz62_9 : wc.cell? ⟨gb653, 9, none⟩ = some (.bool x654009_1) := (blk_cell BK653.out 9).trans rfl
                          have hfz62_0 := blk_frozen BK653.out 0
                          have hfz62_1 := blk_frozen BK653.out 1
                          have hfz62_2 := blk_frozen BK653.out 2
                          have hfz62_3 := blk_frozen BK653.out 3
                          have hfz62_4 := blk_frozen BK653.out 4
                          have hfz62_5 := blk_frozen BK653.out 5
                          have hfz62_6 := blk_frozen BK653.out 6
                          have hfz62_7 := blk_frozen BK653.out 7
                          have hfz62_8 := blk_frozen BK653.out 8
                          have hfz62_9 := blk_frozen BK653.out 9
                          go_wp2_with (first | ((with_reducible refine gate_callee (f := 50) rfl ?_); refine goesL_ (some 63) rfl rfl Try.func50 (by kernel_rfl) rfl #[.slice A654_1 ((rd_T55 l0 x5_1).f1).length c654_1, .bool true] rfl (by (try simp only [List.map_toArray, List.map_cons, List.map_nil]); first | done | rfl | (simp only [List.length_drop, List.length_take]; rfl)) ?_; (with_reducible refine (umpireref02_Get.calls kj7 _ _ ((rd_T55 l0 x5_1).f1) true t665 _ ?side1 ?side2 A57.out).mono ?_); (case side1 => exact Kd.C_below HR654_1.out (by repeat (first | (with_reducible first | exact HB.out | apply below_alloc | apply pw_below_drewN | apply below_drew1 | refine below_set ?_ GE652.out | refine below_set ?_ GE653.out | refine below_set ?_ GE655.out) | exact HB.out))); (case side2 => exact HC654_1.out); rintro e w' ⟨rfl, ⟨nd, rfl⟩⟩; refine ⟨_, rfl, ?_⟩))
                          go_roundg kj7
                          case measure => have := HK1.out; have := HJ7.out; omega
                          case rel => exact ⟨(wrap64 (x5_1 + 1)), (x653000_1), (x653001_1), (x653002_1), (x653003_1), (x653004_1), (x653005_1), (x653006_1), (x653007_1), (x653008_1), (x653009_1), (x654000_1), (x654001_1), (x654002_1), (x654003_1), (x654004_1), (x654005_1), (true), ((t665) % 4294967296), (x654008_1), (x654009_1), (by first | rfl | (simp; done) | (simp [*]; done)), H', ⟨by have := HK1.out; have := HJ7.out; omega⟩, ⟨by (with_reducible repeat (first | refine blk_drewN ?_ _ | refine blk_drew ?_ | refine blk_alloc ?_ _)); refine blk_far ?_ NB652_653.out _; (with_reducible repeat (first | refine blk_drewN ?_ _ | refine blk_drew ?_ | refine blk_alloc ?_ _)); refine blk_far ?_ NB652_653.out _; (with_reducible repeat (first | refine blk_drewN ?_ _ | refine blk_drew ?_ | refine blk_alloc ?_ _)); exact BK652.out⟩, ⟨by (with_reducible repeat (first | refine blk_drewN ?_ _ | refine blk_drew ?_ | refine blk_alloc ?_ _)); refine blk_put (cs := #[.bool x654000_1, .int .i64 x654001_1, .bool x654002_1, .int .u32 x654003_1, .int .i64 x654004_1, .bool x654005_1, .bool true, .int .u32 x654007_1, .bool x654008_1, .bool x654009_1]) ?_ 7 _ rfl; (with_reducible repeat (first | refine blk_drewN ?_ _ | refine blk_drew ?_ | refine blk_alloc ?_ _)); refine blk_put (cs := #[.bool x654000_1, .int .i64 x654001_1, .bool x654002_1, .int .u32 x654003_1, .int .i64 x654004_1, .bool x654005_1, .bool x654006_1, .int .u32 x654007_1, .bool x654008_1, .bool x654009_1]) ?_ 6 _ rfl; (with_reducible repeat (first | refine blk_drewN ?_ _ | refine blk_drew ?_ | refine blk_alloc ?_ _)); exact BK653.out⟩, ⟨by repeat (first | (with_reducible first | exact HB.out | apply below_alloc | apply pw_below_drewN | apply below_drew1 | refine below_set ?_ GE652.out | refine below_set ?_ GE653.out | refine below_set ?_ GE655.out) | exact HB.out)⟩⟩
                        · rw [if_neg c56] at H
                          have c56b0 : (((rd_T55 l0 x5_1).f0) == 5) = false := beq_eq_false_iff_ne.mpr c56
                          have c56b1 : (((rd_T55 l0 x5_1).f0) != 5) = true := bne_iff_ne.mpr c56
                          by_cases c63 : ((rd_T55 l0 x5_1).f0) = 7
                          · rw [if_pos c63] at H
                            have c63b0 : (((rd_T55 l0 x5_1).f0) == 7) = true := beq_iff_eq.mpr c63
                            have c63b1 : (((rd_T55 l0 x5_1).f0) != 7) = false := bne_eq_false_iff_eq.mpr c63
                            clear c63
                            have H' := Aside0.mk H
                            clear H
                            have hnb64 := NB655_652.out
                            have hnc64 := NB652_655.out
                            have hnb65 := NB655_653.out
                            have hnc65 := NB653_655.out
                            have hcz66_0 : wc.cell? ⟨gb655, 0, none⟩ = some (.int .i64 ((rd_T55 l0 x5_1).f0)) := (blk_cell BK655.out 0).trans rfl
                            have hcz66_1 : wc.cell? ⟨gb655, 1, none⟩ = some (.slice A654_1 ((rd_T55 l0 x5_1).f1).length c654_1) := (blk_cell BK655.out 1).trans rfl
                            have hfz66_0 := blk_frozen BK655.out 0
                            have hfz66_1 := blk_frozen BK655.out 1
                            have hnb67 := NB653_652.out
                            have hnc67 := NB652_653.out
                            have hcz68_0 : wc.cell? ⟨gb653, 0, none⟩ = some (.bool x654000_1) := (blk_cell BK653.out 0).trans rfl
                            have hcz68_1 : wc.cell? ⟨gb653, 1, none⟩ = some (.int .i64 x654001_1) := (blk_cell BK653.out 1).trans rfl
                            have hcz68_2 : wc.cell? ⟨gb653, 2, none⟩ = some (.bool x654002_1) := (blk_cell BK653.out 2).trans rfl
                            have hcz68_3 : wc.cell? ⟨gb653, 3, none⟩ = some (.int .u32 x654003_1) := (blk_cell BK653.out 3).trans rfl
                            have hcz68_4 : wc.cell? ⟨gb653, 4, none⟩ = some (.int .i64 x654004_1) := (blk_cell BK653.out 4).trans rfl
                            have hcz68_5 : wc.cell? ⟨gb653, 5, none⟩ = some (.bool x654005_1) := (blk_cell BK653.out 5).trans rfl
                            have hcz68_6 : wc.cell? ⟨gb653, 6, none⟩ = some (.bool x654006_1) := (blk_cell BK653.out 6).trans rfl
                            have hcz68_7 : wc.cell? ⟨gb653, 7, none⟩ = some (.int .u32 x654007_1) := (blk_cell BK653.out 7).trans rfl
                            have hcz68_8 : wc.cell? ⟨gb653, 8, none⟩ = some (.bool x654008_1) := (blk_cell BK653.out 8).trans rfl
                            have hcz68_9 : wc.cell? ⟨gb653, 9, none⟩ = some (.bool x654009_1) := (blk_cell BK653.out 9).trans rfl
                            have hfz68_0 := blk_frozen BK653.out 0
                            have hfz68_1 := blk_frozen BK653.out 1
                            have hfz68_2 := blk_frozen BK653.out 2
                            have hfz68_3 := blk_frozen BK653.out 3
                            have hfz68_4 := blk_frozen BK653.out 4
                            have hfz68_5 := blk_frozen BK653.out 5
                            have hfz68_6 := blk_frozen BK653.out 6
                            have hfz68_7 := blk_frozen BK653.out 7
                            have hfz68_8 := blk_frozen BK653.out 8
                            have hfz68_9 := blk_frozen BK653.out 9
                            go_wp2
                            go_roundg kj7
                            case measure => have := HK1.out; have := HJ7.out; omega
                            case rel => exact ⟨(wrap64 (x5_1 + 1)), (x653000_1), (x653001_1), (x653002_1), (x653003_1), (x653004_1), (x653005_1), (x653006_1), (x653007_1), (x653008_1), (x653009_1), (x654000_1), (x654001_1), (x654002_1), (x654003_1), (x654004_1), (x654005_1), (x654006_1), (x654007_1), (true), (x654009_1), (by first | rfl | (simp; done) | (simp [*]; done)), H', ⟨by have := HK1.out; have := HJ7.out; omega⟩, ⟨by (with_reducible repeat (first | refine blk_drewN ?_ _ | refine blk_drew ?_ | refine blk_alloc ?_ _)); refine blk_far ?_ NB652_653.out _; (with_reducible repeat (first | refine blk_drewN ?_ _ | refine blk_drew ?_ | refine blk_alloc ?_ _)); exact BK652.out⟩, ⟨by (with_reducible repeat (first | refine blk_drewN ?_ _ | refine blk_drew ?_ | refine blk_alloc ?_ _)); refine blk_put (cs := #[.bool x654000_1, .int .i64 x654001_1, .bool x654002_1, .int .u32 x654003_1, .int .i64 x654004_1, .bool x654005_1, .bool x654006_1, .int .u32 x654007_1, .bool x654008_1, .bool x654009_1]) ?_ 8 _ rfl; (with_reducible repeat (first | refine blk_drewN ?_ _ | refine blk_drew ?_ | refine blk_alloc ?_ _)); exact BK653.out⟩, ⟨by repeat (first | (with_reducible first | exact HB.out | apply below_alloc | apply pw_below_drewN | apply below_drew1 | refine below_set ?_ GE652.out | refine below_set ?_ GE653.out | refine below_set ?_ GE655.out) | exact HB.out)⟩⟩
                          · rw [if_neg c63] at H
                            have c63b0 : (((rd_T55 l0 x5_1).f0) == 7) = false := beq_eq_false_iff_ne.mpr c63
                            have c63b1 : (((rd_T55 l0 x5_1).f0) != 7) = true := bne_iff_ne.mpr c63
                            by_cases c69 : ((rd_T55 l0 x5_1).f0) = 8
                            · rw [if_pos c69] at H
                              have c69b0 : (((rd_T55 l0 x5_1).f0) == 8) = true := beq_iff_eq.mpr c69
                              have c69b1 : (((rd_T55 l0 x5_1).f0) != 8) = false := bne_eq_false_iff_eq.mpr c69
                              clear c69
                              have H' := Aside0.mk H
                              clear H
                              have hnb70 := NB655_652.out
                              have hnc70 := NB652_655.out
                              have hnb71 := NB655_653.out
                              have hnc71 := NB653_655.out
                              have hcz72_0 : wc.cell? ⟨gb655, 0, none⟩ = some (.int .i64 ((rd_T55 l0 x5_1).f0)) := (blk_cell BK655.out 0).trans rfl
                              have hcz72_1 : wc.cell? ⟨gb655, 1, none⟩ = some (.slice A654_1 ((rd_T55 l0 x5_1).f1).length c654_1) := (blk_cell BK655.out 1).trans rfl
                              have hfz72_0 := blk_frozen BK655.out 0
                              have hfz72_1 := blk_frozen BK655.out 1
                              have hnb73 := NB653_652.out
                              have hnc73 := NB652_653.out
                              have hcz74_0 : wc.cell? ⟨gb653, 0, none⟩ = some (.bool x654000_1) := (blk_cell BK653.out 0).trans rfl
                              have hcz74_1 : wc.cell? ⟨gb653, 1, none⟩ = some (.int .i64 x654001_1) := (blk_cell BK653.out 1).trans rfl
                              have hcz74_2 : wc.cell? ⟨gb653, 2, none⟩ = some (.bool x654002_1) := (blk_cell BK653.out 2).trans rfl
                              have hcz74_3 : wc.cell? ⟨gb653, 3, none⟩ = some (.int .u32 x654003_1) := (blk_cell BK653.out 3).trans rfl
                              have hcz74_4 : wc.cell? ⟨gb653, 4, none⟩ = some (.int .i64 x654004_1) := (blk_cell BK653.out 4).trans rfl
                              have hcz74_5 : wc.cell? ⟨gb653, 5, none⟩ = some (.bool x654005_1) := (blk_cell BK653.out 5).trans rfl
                              have hcz74_6 : wc.cell? ⟨gb653, 6, none⟩ = some (.bool x654006_1) := (blk_cell BK653.out 6).trans rfl
                              have hcz74_7 : wc.cell? ⟨gb653, 7, none⟩ = some (.int .u32 x654007_1) := (blk_cell BK653.out 7).trans rfl
                              have hcz74_8 : wc.cell? ⟨gb653, 8, none⟩ = some (.bool x654008_1) := (blk_cell BK653.out 8).trans rfl
                              have hcz74_9 : wc.cell? ⟨gb653, 9, none⟩ = some (.bool x654009_1) := (blk_cell BK653.out 9).trans rfl
                              have hfz74_0 := blk_frozen BK653.out 0
                              have hfz74_1 := blk_frozen BK653.out 1
                              have hfz74_2 := blk_frozen BK653.out 2
                              have hfz74_3 := blk_frozen BK653.out 3
                              have hfz74_4 := blk_frozen BK653.out 4
                              have hfz74_5 := blk_frozen BK653.out 5
                              have hfz74_6 := blk_frozen BK653.out 6
                              have hfz74_7 := blk_frozen BK653.out 7
                              have hfz74_8 := blk_frozen BK653.out 8
                              have hfz74_9 := blk_frozen BK653.out 9
                              go_wp2
                              go_roundg kj7
                              case measure => have := HK1.out; have := HJ7.out; omega
                              case rel => exact ⟨(wrap64 (x5_1 + 1)), (x653000_1), (x653001_1), (x653002_1), (x653003_1), (x653004_1), (x653005_1), (x653006_1), (x653007_1), (x653008_1), (x653009_1), (x654000_1), (x654001_1), (x654002_1), (x654003_1), (x654004_1), (x654005_1), (x654006_1), (x654007_1), (x654008_1), (true), (by first | rfl | (simp; done) | (simp [*]; done)), H', ⟨by have := HK1.out; have := HJ7.out; omega⟩, ⟨by (with_reducible repeat (first | refine blk_drewN ?_ _ | refine blk_drew ?_ | refine blk_alloc ?_ _)); refine blk_far ?_ NB652_653.out _; (with_reducible repeat (first | refine blk_drewN ?_ _ | refine blk_drew ?_ | refine blk_alloc ?_ _)); exact BK652.out⟩, ⟨by (with_reducible repeat (first | refine blk_drewN ?_ _ | refine blk_drew ?_ | refine blk_alloc ?_ _)); refine blk_put (cs := #[.bool x654000_1, .int .i64 x654001_1, .bool x654002_1, .int .u32 x654003_1, .int .i64 x654004_1, .bool x654005_1, .bool x654006_1, .int .u32 x654007_1, .bool x654008_1, .bool x654009_1]) ?_ 9 _ rfl; (with_reducible repeat (first | refine blk_drewN ?_ _ | refine blk_drew ?_ | refine blk_alloc ?_ _)); exact BK653.out⟩, ⟨by repeat (first | (with_reducible first | exact HB.out | apply below_alloc | apply pw_below_drewN | apply below_drew1 | refine below_set ?_ GE652.out | refine below_set ?_ GE653.out | refine below_set ?_ GE655.out) | exact HB.out)⟩⟩
                            · rw [if_neg c69] at H
                              have c69b0 : (((rd_T55 l0 x5_1).f0) == 8) = false := beq_eq_false_iff_ne.mpr c69
                              have c69b1 : (((rd_T55 l0 x5_1).f0) != 8) = true := bne_iff_ne.mpr c69
                              have H' := Aside0.mk H
                              clear H
                              have hnb75 := NB655_652.out
                              have hnc75 := NB652_655.out
                              have hnb76 := NB655_653.out
                              have hnc76 := NB653_655.out
                              have hcz77_0 : wc.cell? ⟨gb655, 0, none⟩ = some (.int .i64 ((rd_T55 l0 x5_1).f0)) := (blk_cell BK655.out 0).trans rfl
                              have hcz77_1 : wc.cell? ⟨gb655, 1, none⟩ = some (.slice A654_1 ((rd_T55 l0 x5_1).f1).length c654_1) := (blk_cell BK655.out 1).trans rfl
                              have hfz77_0 := blk_frozen BK655.out 0
                              have hfz77_1 := blk_frozen BK655.out 1
                              go_wp2
                              go_roundg kj7
                              case measure => have := HK1.out; have := HJ7.out; omega
                              case rel => exact ⟨(wrap64 (x5_1 + 1)), (x653000_1), (x653001_1), (x653002_1), (x653003_1), (x653004_1), (x653005_1), (x653006_1), (x653007_1), (x653008_1), (x653009_1), (x654000_1), (x654001_1), (x654002_1), (x654003_1), (x654004_1), (x654005_1), (x654006_1), (x654007_1), (x654008_1), (x654009_1), (by first | rfl | (simp; done) | (simp [*]; done)), H', ⟨by have := HK1.out; have := HJ7.out; omega⟩, ⟨by (with_reducible repeat (first | refine blk_drewN ?_ _ | refine blk_drew ?_ | refine blk_alloc ?_ _)); exact BK652.out⟩, ⟨by (with_reducible repeat (first | refine blk_drewN ?_ _ | refine blk_drew ?_ | refine blk_alloc ?_ _)); exact BK653.out⟩, ⟨by repeat (first | (with_reducible first | exact HB.out | apply below_alloc | apply pw_below_drewN | apply below_drew1 | refine below_set ?_ GE652.out | refine below_set ?_ GE653.out | refine below_set ?_ GE655.out) | exact HB.out)⟩⟩
        · rw [if_neg c7] at H
          exact absurd H (by simp)
      · rw [if_neg c6] at H
        have c6b0 : decide (x5_1 < (l0.length : Int)) = false := decide_eq_false c6
        clear c6
        simp only [Option.some.injEq, Prod.mk.injEq] at H
        obtain ⟨rfl, rfl, rfl, rfl, rfl, rfl, rfl, rfl, rfl, rfl, rfl⟩ := H
        have hnb78 := NB653_652.out
        have hnc78 := NB652_653.out
        have hcz79_0 : wr.cell? ⟨gb653, 0, none⟩ = some (.bool x654000_1) := (blk_cell BK653.out 0).trans rfl
        have hcz79_1 : wr.cell? ⟨gb653, 1, none⟩ = some (.int .i64 x654001_1) := (blk_cell BK653.out 1).trans rfl
        have hcz79_2 : wr.cell? ⟨gb653, 2, none⟩ = some (.bool x654002_1) := (blk_cell BK653.out 2).trans rfl
        have hcz79_3 : wr.cell? ⟨gb653, 3, none⟩ = some (.int .u32 x654003_1) := (blk_cell BK653.out 3).trans rfl
        have hcz79_4 : wr.cell? ⟨gb653, 4, none⟩ = some (.int .i64 x654004_1) := (blk_cell BK653.out 4).trans rfl
        have hcz79_5 : wr.cell? ⟨gb653, 5, none⟩ = some (.bool x654005_1) := (blk_cell BK653.out 5).trans rfl
        have hcz79_6 : wr.cell? ⟨gb653, 6, none⟩ = some (.bool x654006_1) := (blk_cell BK653.out 6).trans rfl
        have hcz79_7 : wr.cell? ⟨gb653, 7, none⟩ = some (.int .u32 x654007_1) := (blk_cell BK653.out 7).trans rfl
        have hcz79_8 : wr.cell? ⟨gb653, 8, none⟩ = some (.bool x654008_1) := (blk_cell BK653.out 8).trans rfl
        have hcz79_9 : wr.cell? ⟨gb653, 9, none⟩ = some (.bool x654009_1) := (blk_cell BK653.out 9).trans rfl
        have hfz79_0 := blk_frozen BK653.out 0
        have hfz79_1 := blk_frozen BK653.out 1
        have hfz79_2 := blk_frozen BK653.out 2
        have hfz79_3 := blk_frozen BK653.out 3
        have hfz79_4 := blk_frozen BK653.out 4
        have hfz79_5 := blk_frozen BK653.out 5
        have hfz79_6 := blk_frozen BK653.out 6
        have hfz79_7 := blk_frozen BK653.out 7
        have hfz79_8 := blk_frozen BK653.out 8
        have hfz79_9 := blk_frozen BK653.out 9
        have hcz80_0 : wr.cell? ⟨gb652, 0, none⟩ = some (.bool x653000_1) := (blk_cell BK652.out 0).trans rfl
        have hcz80_1 : wr.cell? ⟨gb652, 1, none⟩ = some (.int .i64 x653001_1) := (blk_cell BK652.out 1).trans rfl
        have hcz80_2 : wr.cell? ⟨gb652, 2, none⟩ = some (.bool x653002_1) := (blk_cell BK652.out 2).trans rfl
        have hcz80_3 : wr.cell? ⟨gb652, 3, none⟩ = some (.int .u32 x653003_1) := (blk_cell BK652.out 3).trans rfl
        have hcz80_4 : wr.cell? ⟨gb652, 4, none⟩ = some (.int .i64 x653004_1) := (blk_cell BK652.out 4).trans rfl
        have hcz80_5 : wr.cell? ⟨gb652, 5, none⟩ = some (.bool x653005_1) := (blk_cell BK652.out 5).trans rfl
        have hcz80_6 : wr.cell? ⟨gb652, 6, none⟩ = some (.bool x653006_1) := (blk_cell BK652.out 6).trans rfl
        have hcz80_7 : wr.cell? ⟨gb652, 7, none⟩ = some (.int .u32 x653007_1) := (blk_cell BK652.out 7).trans rfl
        have hcz80_8 : wr.cell? ⟨gb652, 8, none⟩ = some (.bool x653008_1) := (blk_cell BK652.out 8).trans rfl
        have hcz80_9 : wr.cell? ⟨gb652, 9, none⟩ = some (.bool x653009_1) := (blk_cell BK652.out 9).trans rfl
        have hfz80_0 := blk_frozen BK652.out 0
        have hfz80_1 := blk_frozen BK652.out 1
        have hfz80_2 := blk_frozen BK652.out 2
        have hfz80_3 := blk_frozen BK652.out 3
        have hfz80_4 := blk_frozen BK652.out 4
        have hfz80_5 := blk_frozen BK652.out 5
        have hfz80_6 := blk_frozen BK652.out 6
        have hfz80_7 := blk_frozen BK652.out 7
        have hfz80_8 := blk_frozen BK652.out 8
        have hfz80_9 := blk_frozen BK652.out 9
        go_wp2
        refine bodyPost_ret (results_ct rfl _ _ gb652 61 #[.bool x654000_1, .int .i64 x654001_1, .bool x654002_1, .int .u32 x654003_1, .int .i64 x654004_1, .bool x654005_1, .bool x654006_1, .int .u32 x654007_1, .bool x654008_1, .bool x654009_1] (0, 0) _ rfl (by (with_reducible repeat (first | refine blk_drewN ?_ _ | refine blk_drew ?_ | refine blk_alloc ?_ _)); refine blk_put (cs := #[.bool x654000_1, .int .i64 x654001_1, .bool x654002_1, .int .u32 x654003_1, .int .i64 x654004_1, .bool x654005_1, .bool x654006_1, .int .u32 x654007_1, .bool x654008_1, .bool x653009_1]) ?_ 9 _ rfl; (with_reducible repeat (first | refine blk_drewN ?_ _ | refine blk_drew ?_ | refine blk_alloc ?_ _)); refine blk_put (cs := #[.bool x654000_1, .int .i64 x654001_1, .bool x654002_1, .int .u32 x654003_1, .int .i64 x654004_1, .bool x654005_1, .bool x654006_1, .int .u32 x654007_1, .bool x653008_1, .bool x653009_1]) ?_ 8 _ rfl; (with_reducible repeat (first | refine blk_drewN ?_ _ | refine blk_drew ?_ | refine blk_alloc ?_ _)); refine blk_put (cs := #[.bool x654000_1, .int .i64 x654001_1, .bool x654002_1, .int .u32 x654003_1, .int .i64 x654004_1, .bool x654005_1, .bool x654006_1, .int .u32 x653007_1, .bool x653008_1, .bool x653009_1]) ?_ 7 _ rfl; (with_reducible repeat (first | refine blk_drewN ?_ _ | refine blk_drew ?_ | refine blk_alloc ?_ _)); refine blk_put (cs := #[.bool x654000_1, .int .i64 x654001_1, .bool x654002_1, .int .u32 x654003_1, .int .i64 x654004_1, .bool x654005_1, .bool x653006_1, .int .u32 x653007_1, .bool x653008_1, .bool x653009_1]) ?_ 6 _ rfl; (with_reducible repeat (first | refine blk_drewN ?_ _ | refine blk_drew ?_ | refine blk_alloc ?_ _)); refine blk_put (cs := #[.bool x654000_1, .int .i64 x654001_1, .bool x654002_1, .int .u32 x654003_1, .int .i64 x654004_1, .bool x653005_1, .bool x653006_1, .int .u32 x653007_1, .bool x653008_1, .bool x653009_1]) ?_ 5 _ rfl; (with_reducible repeat (first | refine blk_drewN ?_ _ | refine blk_drew ?_ | refine blk_alloc ?_ _)); refine blk_put (cs := #[.bool x654000_1, .int .i64 x654001_1, .bool x654002_1, .int .u32 x654003_1, .int .i64 x653004_1, .bool x653005_1, .bool x653006_1, .int .u32 x653007_1, .bool x653008_1, .bool x653009_1]) ?_ 4 _ rfl; (with_reducible repeat (first | refine blk_drewN ?_ _ | refine blk_drew ?_ | refine blk_alloc ?_ _)); refine blk_put (cs := #[.bool x654000_1, .int .i64 x654001_1, .bool x654002_1, .int .u32 x653003_1, .int .i64 x653004_1, .bool x653005_1, .bool x653006_1, .int .u32 x653007_1, .bool x653008_1, .bool x653009_1]) ?_ 3 _ rfl; (with_reducible repeat (first | refine blk_drewN ?_ _ | refine blk_drew ?_ | refine blk_alloc ?_ _)); refine blk_put (cs := #[.bool x654000_1, .int .i64 x654001_1, .bool x653002_1, .int .u32 x653003_1, .int .i64 x653004_1, .bool x653005_1, .bool x653006_1, .int .u32 x653007_1, .bool x653008_1, .bool x653009_1]) ?_ 2 _ rfl; (with_reducible repeat (first | refine blk_drewN ?_ _ | refine blk_drew ?_ | refine blk_alloc ?_ _)); refine blk_put (cs := #[.bool x654000_1, .int .i64 x653001_1, .bool x653002_1, .int .u32 x653003_1, .int .i64 x653004_1, .bool x653005_1, .bool x653006_1, .int .u32 x653007_1, .bool x653008_1, .bool x653009_1]) ?_ 1 _ rfl; (with_reducible repeat (first | refine blk_drewN ?_ _ | refine blk_drew ?_ | refine blk_alloc ?_ _)); refine blk_put (cs := #[.bool x653000_1, .int .i64 x653001_1, .bool x653002_1, .int .u32 x653003_1, .int .i64 x653004_1, .bool x653005_1, .bool x653006_1, .int .u32 x653007_1, .bool x653008_1, .bool x653009_1]) ?_ 0 _ rfl; (with_reducible repeat (first | refine blk_drewN ?_ _ | refine blk_drew ?_ | refine blk_alloc ?_ _)); exact BK652.out) Try.underlying61 rfl (by kernel_rfl)) rfl ?_
        exact ⟨by first | rfl | (simp [errW_none, errW_some] <;> rfl) | (simp [*, errW_none, errW_some] <;> rfl), by repeat (first | (with_reducible first | exact HB.out | apply below_alloc | apply pw_below_drewN | apply below_drew1 | refine below_set ?_ GE652.out | refine below_set ?_ GE653.out) | exact HB.out)⟩

end Go.Proofs.Ytnjimecjpnjojaa.Print
