-- laid by this session's own program (wip/mkprint.sh) for this claim
import Derived.Test.Ytgnonglkibhnhaa0
import Derived.Test.YtgnonglkibhnhaaF27
import Derived.Test.YtgnonglkibhnhaaF28
namespace Go.Proofs.Ytgnonglkibhnhaa.Print
open Go.RowKit Go.Proofs.YtgnonglkibhnhaaW.PrintWords Go.Proofs.YtgnonglkibhnhaaW.PrintLast Go.Proofs.YtgnonglkibhnhaaW.PrintMore
attribute [local go_sem] max2_int min2_int max_two min_two max_three min_three max_four min_four   -- for this text's walks alone
set_option linter.unusedVariables false
set_option linter.unusedSimpArgs false

/-! ### umpireref07_All: function 19 -/
mutual
def umpireref07_All.l0 : Nat → Int → Bool → List (List Int) → List (List Int) → Int → Int → Int → Int → Int → Int → Option ((List (List Int)) × Int × Int × Int × Int × Int)
  | 0, _, _, _, _, _, _, _, _, _, _ => none
  | k + 1, x1, x2, x8, x10, x11, x501000, x501001, x501002, x501003, x501004 => if x11 < (x10.length : Int) then (if 0 ≤ x11 then ((umpireref07_Judge.f k (rd_L1 x10 x11) x1 x2).bind fun bt505 => (if bt505.2 = 1 then (if x8.length < 5864062014805 then (umpireref07_All.j1 k x1 x2 (x8 ++ [bt505.1]) x10 x11 bt505.2 (wrap64 (x501000 + 1)) x501001 x501002 x501003 x501004) else (none)) else (umpireref07_All.j1 k x1 x2 x8 x10 x11 bt505.2 x501000 x501001 x501002 x501003 x501004))) else (none)) else (some (x8, x501000, x501001, x501002, x501003, x501004))
def umpireref07_All.j1 : Nat → Int → Bool → List (List Int) → List (List Int) → Int → Int → Int → Int → Int → Int → Int → Option ((List (List Int)) × Int × Int × Int × Int × Int)
  | 0, _, _, _, _, _, _, _, _, _, _, _ => none
  | k + 1, x1, x2, x8, x10, x11, x13, x501000, x501001, x501002, x501003, x501004 => if x13 = 2 then (umpireref07_All.j2 k x1 x2 x8 x10 x11 x13 x501000 (wrap64 (x501001 + 1)) x501002 x501003 x501004) else (umpireref07_All.j2 k x1 x2 x8 x10 x11 x13 x501000 x501001 x501002 x501003 x501004)
def umpireref07_All.j2 : Nat → Int → Bool → List (List Int) → List (List Int) → Int → Int → Int → Int → Int → Int → Int → Option ((List (List Int)) × Int × Int × Int × Int × Int)
  | 0, _, _, _, _, _, _, _, _, _, _, _ => none
  | k + 1, x1, x2, x8, x10, x11, x13, x501000, x501001, x501002, x501003, x501004 => if x13 = 3 then (umpireref07_All.j3 k x1 x2 x8 x10 x11 x13 x501000 x501001 (wrap64 (x501002 + 1)) x501003 x501004) else (umpireref07_All.j3 k x1 x2 x8 x10 x11 x13 x501000 x501001 x501002 x501003 x501004)
def umpireref07_All.j3 : Nat → Int → Bool → List (List Int) → List (List Int) → Int → Int → Int → Int → Int → Int → Int → Option ((List (List Int)) × Int × Int × Int × Int × Int)
  | 0, _, _, _, _, _, _, _, _, _, _, _ => none
  | k + 1, x1, x2, x8, x10, x11, x13, x501000, x501001, x501002, x501003, x501004 => if x13 = 4 then (if x13 = 5 then (umpireref07_All.l0 k x1 x2 x8 x10 (wrap64 (x11 + 1)) x501000 x501001 x501002 (wrap64 (x501003 + 1)) (wrap64 (x501004 + 1))) else (umpireref07_All.l0 k x1 x2 x8 x10 (wrap64 (x11 + 1)) x501000 x501001 x501002 (wrap64 (x501003 + 1)) x501004)) else (if x13 = 5 then (umpireref07_All.l0 k x1 x2 x8 x10 (wrap64 (x11 + 1)) x501000 x501001 x501002 x501003 (wrap64 (x501004 + 1))) else (umpireref07_All.l0 k x1 x2 x8 x10 (wrap64 (x11 + 1)) x501000 x501001 x501002 x501003 x501004))
end
def umpireref07_All.f (k : Nat) (l0 : List Int) (a1 : Int) (a2 : Bool) : Option ((List (List Int)) × Int × Int × Int × Int × Int) := (umpireref07_Between.f k l0).bind fun t501 => (umpireref07_All.l0 k a1 a2 ([] : List (List Int)) t501 0 0 0 0 0 0)
theorem umpireref07_All.mono_l : ∀ k, (∀ y0 y1 y2 y3 y4 y5 y6 y7 y8 y9, LeO (umpireref07_All.l0 k y0 y1 y2 y3 y4 y5 y6 y7 y8 y9) (umpireref07_All.l0 (k + 1) y0 y1 y2 y3 y4 y5 y6 y7 y8 y9)) ∧ (∀ y0 y1 y2 y3 y4 y5 y6 y7 y8 y9 y10, LeO (umpireref07_All.j1 k y0 y1 y2 y3 y4 y5 y6 y7 y8 y9 y10) (umpireref07_All.j1 (k + 1) y0 y1 y2 y3 y4 y5 y6 y7 y8 y9 y10)) ∧ (∀ y0 y1 y2 y3 y4 y5 y6 y7 y8 y9 y10, LeO (umpireref07_All.j2 k y0 y1 y2 y3 y4 y5 y6 y7 y8 y9 y10) (umpireref07_All.j2 (k + 1) y0 y1 y2 y3 y4 y5 y6 y7 y8 y9 y10)) ∧ (∀ y0 y1 y2 y3 y4 y5 y6 y7 y8 y9 y10, LeO (umpireref07_All.j3 k y0 y1 y2 y3 y4 y5 y6 y7 y8 y9 y10) (umpireref07_All.j3 (k + 1) y0 y1 y2 y3 y4 y5 y6 y7 y8 y9 y10))
  | 0 => ⟨fun _ _ _ _ _ _ _ _ _ _ r h => by simp [umpireref07_All.l0] at h, fun _ _ _ _ _ _ _ _ _ _ _ r h => by simp [umpireref07_All.j1] at h, fun _ _ _ _ _ _ _ _ _ _ _ r h => by simp [umpireref07_All.j2] at h, fun _ _ _ _ _ _ _ _ _ _ _ r h => by simp [umpireref07_All.j3] at h⟩
  | k + 1 => by
    obtain ⟨ih0, ih1, ih2, ih3⟩ := umpireref07_All.mono_l k
    refine ⟨?_, ?_, ?_, ?_⟩
    · intro y0 y1 y2 y3 y4 y5 y6 y7 y8 y9
      unfold umpireref07_All.l0
      repeat' first
      | (with_reducible exact ih0 _ _ _ _ _ _ _ _ _ _)
      | (with_reducible exact ih1 _ _ _ _ _ _ _ _ _ _ _)
      | (with_reducible exact ih2 _ _ _ _ _ _ _ _ _ _ _)
      | (with_reducible exact ih3 _ _ _ _ _ _ _ _ _ _ _)
      | (with_reducible exact umpireref07_Between.mono _ _)
      | (with_reducible exact umpireref07_Judge.mono _ _ _ _)
      | (with_reducible exact LeO.refl _)
      | (with_reducible exact LeO.none _)
      | (with_reducible refine LeO.ite ?_ ?_)
      | (with_reducible refine LeO.bind ?_ (fun _ => ?_))
      | exact ih0 _ _ _ _ _ _ _ _ _ _
      | exact ih1 _ _ _ _ _ _ _ _ _ _ _
      | exact ih2 _ _ _ _ _ _ _ _ _ _ _
      | exact ih3 _ _ _ _ _ _ _ _ _ _ _
      | exact umpireref07_Between.mono _ _
      | exact umpireref07_Judge.mono _ _ _ _
      | exact LeO.none _
      | refine LeO.ite ?_ ?_
      | refine LeO.bind ?_ (fun _ => ?_)
    · intro y0 y1 y2 y3 y4 y5 y6 y7 y8 y9 y10
      unfold umpireref07_All.j1
      repeat' first
      | (with_reducible exact ih0 _ _ _ _ _ _ _ _ _ _)
      | (with_reducible exact ih1 _ _ _ _ _ _ _ _ _ _ _)
      | (with_reducible exact ih2 _ _ _ _ _ _ _ _ _ _ _)
      | (with_reducible exact ih3 _ _ _ _ _ _ _ _ _ _ _)
      | (with_reducible exact umpireref07_Between.mono _ _)
      | (with_reducible exact umpireref07_Judge.mono _ _ _ _)
      | (with_reducible exact LeO.refl _)
      | (with_reducible exact LeO.none _)
      | (with_reducible refine LeO.ite ?_ ?_)
      | (with_reducible refine LeO.bind ?_ (fun _ => ?_))
      | exact ih0 _ _ _ _ _ _ _ _ _ _
      | exact ih1 _ _ _ _ _ _ _ _ _ _ _
      | exact ih2 _ _ _ _ _ _ _ _ _ _ _
      | exact ih3 _ _ _ _ _ _ _ _ _ _ _
      | exact umpireref07_Between.mono _ _
      | exact umpireref07_Judge.mono _ _ _ _
      | exact LeO.none _
      | refine LeO.ite ?_ ?_
      | refine LeO.bind ?_ (fun _ => ?_)
    · intro y0 y1 y2 y3 y4 y5 y6 y7 y8 y9 y10
      unfold umpireref07_All.j2
      repeat' first
      | (with_reducible exact ih0 _ _ _ _ _ _ _ _ _ _)
      | (with_reducible exact ih1 _ _ _ _ _ _ _ _ _ _ _)
      | (with_reducible exact ih2 _ _ _ _ _ _ _ _ _ _ _)
      | (with_reducible exact ih3 _ _ _ _ _ _ _ _ _ _ _)
      | (with_reducible exact umpireref07_Between.mono _ _)
      | (with_reducible exact umpireref07_Judge.mono _ _ _ _)
      | (with_reducible exact LeO.refl _)
      | (with_reducible exact LeO.none _)
      | (with_reducible refine LeO.ite ?_ ?_)
      | (with_reducible refine LeO.bind ?_ (fun _ => ?_))
      | exact ih0 _ _ _ _ _ _ _ _ _ _
      | exact ih1 _ _ _ _ _ _ _ _ _ _ _
      | exact ih2 _ _ _ _ _ _ _ _ _ _ _
      | exact ih3 _ _ _ _ _ _ _ _ _ _ _
      | exact umpireref07_Between.mono _ _
      | exact umpireref07_Judge.mono _ _ _ _
      | exact LeO.none _
      | refine LeO.ite ?_ ?_
      | refine LeO.bind ?_ (fun _ => ?_)
    · intro y0 y1 y2 y3 y4 y5 y6 y7 y8 y9 y10
      unfold umpireref07_All.j3
      repeat' first
      | (with_reducible exact ih0 _ _ _ _ _ _ _ _ _ _)
      | (with_reducible exact ih1 _ _ _ _ _ _ _ _ _ _ _)
      | (with_reducible exact ih2 _ _ _ _ _ _ _ _ _ _ _)
      | (with_reducible exact ih3 _ _ _ _ _ _ _ _ _ _ _)
      | (with_reducible exact umpireref07_Between.mono _ _)
      | (with_reducible exact umpireref07_Judge.mono _ _ _ _)
      | (with_reducible exact LeO.refl _)
      | (with_reducible exact LeO.none _)
      | (with_reducible refine LeO.ite ?_ ?_)
      | (with_reducible refine LeO.bind ?_ (fun _ => ?_))
      | exact ih0 _ _ _ _ _ _ _ _ _ _
      | exact ih1 _ _ _ _ _ _ _ _ _ _ _
      | exact ih2 _ _ _ _ _ _ _ _ _ _ _
      | exact ih3 _ _ _ _ _ _ _ _ _ _ _
      | exact umpireref07_Between.mono _ _
      | exact umpireref07_Judge.mono _ _ _ _
      | exact LeO.none _
      | refine LeO.ite ?_ ?_
      | refine LeO.bind ?_ (fun _ => ?_)
theorem umpireref07_All.mono : ∀ a0 a1 a2 k, LeO (umpireref07_All.f k a0 a1 a2) (umpireref07_All.f (k + 1) a0 a1 a2) := by
  intro a0 a1 a2 k
  obtain ⟨ih0, ih1, ih2, ih3⟩ := umpireref07_All.mono_l k
  unfold umpireref07_All.f
  repeat' first
      | (with_reducible exact ih0 _ _ _ _ _ _ _ _ _ _)
      | (with_reducible exact ih1 _ _ _ _ _ _ _ _ _ _ _)
      | (with_reducible exact ih2 _ _ _ _ _ _ _ _ _ _ _)
      | (with_reducible exact ih3 _ _ _ _ _ _ _ _ _ _ _)
      | (with_reducible exact umpireref07_Between.mono _ _)
      | (with_reducible exact umpireref07_Judge.mono _ _ _ _)
      | (with_reducible exact LeO.refl _)
      | (with_reducible exact LeO.none _)
      | (with_reducible refine LeO.ite ?_ ?_)
      | (with_reducible refine LeO.bind ?_ (fun _ => ?_))
      | exact ih0 _ _ _ _ _ _ _ _ _ _
      | exact ih1 _ _ _ _ _ _ _ _ _ _ _
      | exact ih2 _ _ _ _ _ _ _ _ _ _ _
      | exact ih3 _ _ _ _ _ _ _ _ _ _ _
      | exact umpireref07_Between.mono _ _
      | exact umpireref07_Judge.mono _ _ _ _
      | exact LeO.none _
      | refine LeO.ite ?_ ?_
      | refine LeO.bind ?_ (fun _ => ?_)
set_option maxHeartbeats 8000000 in
set_option maxRecDepth 100000 in
theorem umpireref07_All.calls (k : Nat) (P0_ : Nat → Prop) (A0 : Option Addr) (c0 : Nat) (l0 : List Int) (a1 : Int) (a2 : Bool) (r1 : List (List Int)) (r2 : Int) (r3 : Int) (r4 : Int) (r5 : Int) (r6 : Int) (w : World) (hs0 : Kd.V (Kd.int .u8) 5 w w.heap.size (fun k_ => P0_ k_) (.slice A0 l0.length c0) l0) (h : umpireref07_All.f k l0 a1 a2 = some (r1, r2, r3, r4, r5, r6)) :
    Calls Try.prog 19 #[.slice A0 l0.length c0, .int .u32 a1, .bool a2] w fun e w' => ∃ v0_ : Value, e = .returned (.tuple #[v0_, .agg #[.int .i64 r2, .int .i64 r3, .int .i64 r4, .int .i64 r5, .int .i64 r6]]) ∧ Kd.N (Kd.slice 5 (Kd.int .u8)) 26 w' w.heap.size (fun k_ => (P0_ k_ ∨ w.heap.size ≤ k_)) v0_ r1 ∧ Below w.heap.size w w' := by
  have hu40 := Try.underlying40
  have HO0 := Aside0.mk (show Kd.V (Kd.int .u8) 5 w w.heap.size (fun k_ => (P0_ k_ ∨ w.heap.size ≤ k_)) (.slice A0 l0.length c0) l0 from Kd.V_mono hs0 (fun k_ hk => .inl hk))
  have HB := Aside0.mk (Below.refl w.heap.size w)
  have H : ((umpireref07_Between.f k l0).bind fun t501 => (umpireref07_All.l0 k a1 a2 ([] : List (List Int)) t501 0 0 0 0 0 0)) = some (r1, r2, r3, r4, r5, r6) := h
  clear h
  replace H := Option.bind_eq_some_iff.mp H
  obtain ⟨t501, A40, H⟩ := H
  replace H : (umpireref07_All.l0 k a1 a2 ([] : List (List Int)) t501 0 0 0 0 0 0) = some (r1, r2, r3, r4, r5, r6) := H
  have A4 := Aside0.mk A40
  clear A40
  have H' := Aside0.mk H
  clear H
  go_enter Try.func19, Try.ntmps19
  go_wp2_with (first | ((with_reducible refine gate_dst (N := 7) rfl ?_); refine box_event ?hg (N := 7) ?hd (cs := #[.int .i64 0, .int .i64 0, .int .i64 0, .int .i64 0, .int .i64 0]) (t := 40) ?hr ?_; (case hd => rfl); (case hg => rfl); (case hr => first | (go_simp; done) | (go_simp; rfl)); intro gb499 hg w5 hbox hb; have n0_ := Aside0.mk (Kd.V_below (Kd.V_elderB (by (with_reducible repeat (first | apply Kd.V_alloc | apply Kd.V_drewN | apply Kd.V_drew)); exact HO0.out) gb499 (Nat.le_of_eq hg.symm)) hb); have n1_ := Aside0.mk (below_step (by repeat (first | (with_reducible first | exact HB.out | apply below_alloc | apply pw_below_drewN | apply below_drew1) | exact HB.out)) hb); have n2_ := Aside0.mk (hbox); have n3_ := Aside0.mk ((by rw [hg]; exact (below_size (by repeat (first | (with_reducible first | exact HB.out | apply below_alloc | apply pw_below_drewN | apply below_drew1) | exact HB.out))) : w.heap.size ≤ gb499)); have n4_ := Aside0.mk ((by rw [hg]; exact (below_size (by repeat (first | (with_reducible first | exact HB.out | apply below_alloc | apply pw_below_drewN | apply below_drew1) | exact HB.out))) : w.heap.size ≤ gb499)); clear HO0; clear HB; have HO0 := n0_; have HB := n1_; have BK499 := n2_; have GW499 := n3_; have GE499 := n4_; clear n0_ n1_ n2_ n3_ n4_; clear hb hbox hg) | ((with_reducible refine gate_dst (N := 9) rfl ?_); refine box_event ?hg (N := 9) ?hd (cs := #[.int .i64 0, .int .i64 0, .int .i64 0, .int .i64 0, .int .i64 0]) (t := 40) ?hr ?_; (case hd => rfl); (case hg => rfl); (case hr => first | (go_simp; done) | (go_simp; rfl)); intro gb500 hg w6 hbox hb; have n0_ := Aside0.mk (Kd.V_below (Kd.V_elderB (by (with_reducible repeat (first | apply Kd.V_alloc | apply Kd.V_drewN | apply Kd.V_drew)); exact HO0.out) gb500 (Nat.le_of_eq hg.symm)) hb); have n1_ := Aside0.mk (blk_below (g := gb499) (o := .cells #[.int .i64 0, .int .i64 0, .int .i64 0, .int .i64 0, .int .i64 0] 40 (0, 0)) (by (with_reducible repeat (first | refine blk_drewN ?_ _ | refine blk_drew ?_ | refine blk_alloc ?_ _)); exact BK499.out) hb); have n2_ := Aside0.mk (below_step (by repeat (first | (with_reducible first | exact HB.out | apply below_alloc | apply pw_below_drewN | apply below_drew1 | refine below_set ?_ GE499.out) | exact HB.out)) hb); have n3_ := Aside0.mk (hbox); have n4_ := Aside0.mk ((by rw [hg]; exact (below_size (by repeat (first | (with_reducible first | exact HB.out | apply below_alloc | apply pw_below_drewN | apply below_drew1 | refine below_set ?_ GE499.out) | exact HB.out))) : w.heap.size ≤ gb500)); have n5_ := Aside0.mk ((by rw [hg]; exact (below_size (by repeat (first | (with_reducible first | exact HB.out | apply below_alloc | apply pw_below_drewN | apply below_drew1 | refine below_set ?_ GE499.out) | exact HB.out))) : w.heap.size ≤ gb500)); have n6_ := Aside0.mk ((by rw [hg]; exact Nat.ne_of_lt (blk_lt (g := gb499) (o := .cells #[.int .i64 0, .int .i64 0, .int .i64 0, .int .i64 0, .int .i64 0] 40 (0, 0)) (by (with_reducible repeat (first | refine blk_drewN ?_ _ | refine blk_drew ?_ | refine blk_alloc ?_ _)); exact BK499.out)) : gb499 ≠ gb500)); have n7_ := Aside0.mk ((by rw [hg]; exact Nat.ne_of_gt (blk_lt (g := gb499) (o := .cells #[.int .i64 0, .int .i64 0, .int .i64 0, .int .i64 0, .int .i64 0] 40 (0, 0)) (by (with_reducible repeat (first | refine blk_drewN ?_ _ | refine blk_drew ?_ | refine blk_alloc ?_ _)); exact BK499.out)) : gb500 ≠ gb499)); clear HO0; clear BK499; clear HB; have HO0 := n0_; have BK499 := n1_; have HB := n2_; have BK500 := n3_; have GW500 := n4_; have GE500 := n5_; have NB499_500 := n6_; have NB500_499 := n7_; clear n0_ n1_ n2_ n3_ n4_ n5_ n6_ n7_; clear hb hbox hg; have hnb7 := NB500_499.out; have hnc7 := NB499_500.out; have hcz8_0 : w6.cell? ⟨gb500, 0, none⟩ = some (.int .i64 0) := (blk_cell BK500.out 0).trans rfl; have hcz8_1 : w6.cell? ⟨gb500, 1, none⟩ = some (.int .i64 0) := (blk_cell BK500.out 1).trans rfl; have hcz8_2 : w6.cell? ⟨gb500, 2, none⟩ = some (.int .i64 0) := (blk_cell BK500.out 2).trans rfl; have hcz8_3 : w6.cell? ⟨gb500, 3, none⟩ = some (.int .i64 0) := (blk_cell BK500.out 3).trans rfl; have hcz8_4 : w6.cell? ⟨gb500, 4, none⟩ = some (.int .i64 0) := (blk_cell BK500.out 4).trans rfl; have hfz8_0 := blk_frozen BK500.out 0; have hfz8_1 := blk_frozen BK500.out 1; have hfz8_2 := blk_frozen BK500.out 2; have hfz8_3 := blk_frozen BK500.out 3; have hfz8_4 := blk_frozen BK500.out 4) | ((with_reducible refine gate_store (t := 40) (p := 9) rfl ?_); refine store_event (t := 40) (p := 9) (v := ?vo_w9) (w1 := (((((w6.setCell ⟨gb500, 0, none⟩ (.int .i64 0)).setCell ⟨gb500, 1, none⟩ (.int .i64 0)).setCell ⟨gb500, 2, none⟩ (.int .i64 0)).setCell ⟨gb500, 3, none⟩ (.int .i64 0)).setCell ⟨gb500, 4, none⟩ (.int .i64 0))) ?hg ?ho ?hn ?hr ?_; (case ho => rfl); (case hg => rfl); (case hn => rfl); (case hr => first | (go_simp; done) | (go_simp; rfl)); intro w9 hw; have n0_ : Aside0 (Kd.V (Kd.int .u8) 5 w9 w.heap.size (fun k_ => (P0_ k_ ∨ w.heap.size ≤ k_) ∧ k_ ≠ gb499 ∧ k_ ≠ gb500) (.slice A0 l0.length c0) l0) := ⟨(by rw [hw]; exact (by (with_reducible repeat (first | apply Kd.V_alloc | apply Kd.V_drewN | apply Kd.V_drew)); exact Kd.V_mono (Kd.V_far (p := ⟨gb500, 4, none⟩) (Kd.V_far (p := ⟨gb500, 3, none⟩) (Kd.V_far (p := ⟨gb500, 2, none⟩) (Kd.V_far (p := ⟨gb500, 1, none⟩) (Kd.V_far (p := ⟨gb500, 0, none⟩) (Kd.V_mono HO0.out (fun k_ hk => (⟨hk, hk.2⟩ : _ ∧ k_ ≠ gb500))) (fun _ hk => hk.2) (.int .i64 0)) (fun _ hk => hk.2) (.int .i64 0)) (fun _ hk => hk.2) (.int .i64 0)) (fun _ hk => hk.2) (.int .i64 0)) (fun _ hk => hk.2) (.int .i64 0)) (fun _ hk => ⟨hk.1.1.1, ⟨hk.1.1.2, hk.1.2⟩⟩)))⟩; have n1_ : Aside0 (w9.heap[gb499]? = some (.cells #[.int .i64 0, .int .i64 0, .int .i64 0, .int .i64 0, .int .i64 0] 40 (0, 0))) := ⟨(by rw [hw]; exact (by (with_reducible repeat (first | refine blk_drewN ?_ _ | refine blk_drew ?_ | refine blk_alloc ?_ _)); refine blk_far ?_ NB499_500.out _; (with_reducible repeat (first | refine blk_drewN ?_ _ | refine blk_drew ?_ | refine blk_alloc ?_ _)); refine blk_far ?_ NB499_500.out _; (with_reducible repeat (first | refine blk_drewN ?_ _ | refine blk_drew ?_ | refine blk_alloc ?_ _)); refine blk_far ?_ NB499_500.out _; (with_reducible repeat (first | refine blk_drewN ?_ _ | refine blk_drew ?_ | refine blk_alloc ?_ _)); refine blk_far ?_ NB499_500.out _; (with_reducible repeat (first | refine blk_drewN ?_ _ | refine blk_drew ?_ | refine blk_alloc ?_ _)); refine blk_far ?_ NB499_500.out _; (with_reducible repeat (first | refine blk_drewN ?_ _ | refine blk_drew ?_ | refine blk_alloc ?_ _)); exact BK499.out))⟩; have n2_ : Aside0 (w9.heap[gb500]? = some (.cells #[.int .i64 0, .int .i64 0, .int .i64 0, .int .i64 0, .int .i64 0] 40 (0, 0))) := ⟨(by rw [hw]; exact (by (with_reducible repeat (first | refine blk_drewN ?_ _ | refine blk_drew ?_ | refine blk_alloc ?_ _)); refine blk_put (cs := #[.int .i64 0, .int .i64 0, .int .i64 0, .int .i64 0, .int .i64 0]) ?_ 4 _ rfl; (with_reducible repeat (first | refine blk_drewN ?_ _ | refine blk_drew ?_ | refine blk_alloc ?_ _)); refine blk_put (cs := #[.int .i64 0, .int .i64 0, .int .i64 0, .int .i64 0, .int .i64 0]) ?_ 3 _ rfl; (with_reducible repeat (first | refine blk_drewN ?_ _ | refine blk_drew ?_ | refine blk_alloc ?_ _)); refine blk_put (cs := #[.int .i64 0, .int .i64 0, .int .i64 0, .int .i64 0, .int .i64 0]) ?_ 2 _ rfl; (with_reducible repeat (first | refine blk_drewN ?_ _ | refine blk_drew ?_ | refine blk_alloc ?_ _)); refine blk_put (cs := #[.int .i64 0, .int .i64 0, .int .i64 0, .int .i64 0, .int .i64 0]) ?_ 1 _ rfl; (with_reducible repeat (first | refine blk_drewN ?_ _ | refine blk_drew ?_ | refine blk_alloc ?_ _)); refine blk_put (cs := #[.int .i64 0, .int .i64 0, .int .i64 0, .int .i64 0, .int .i64 0]) ?_ 0 _ rfl; (with_reducible repeat (first | refine blk_drewN ?_ _ | refine blk_drew ?_ | refine blk_alloc ?_ _)); exact BK500.out))⟩; have n3_ : Aside0 (Below w.heap.size w w9) := ⟨(by rw [hw]; exact (by repeat (first | (with_reducible first | exact HB.out | apply below_alloc | apply pw_below_drewN | apply below_drew1 | refine below_set ?_ GE499.out | refine below_set ?_ GE500.out) | exact HB.out)))⟩; clear hw; clear HO0; clear BK499; clear BK500; clear HB; have HO0 := n0_; have BK499 := n1_; have BK500 := n2_; have HB := n3_; clear n0_ n1_ n2_ n3_) | ((with_reducible refine gate_callee (f := 27) rfl ?_); refine goesL_ (some 16) rfl rfl Try.func27 (by kernel_rfl) rfl #[.slice A0 l0.length c0] rfl (by (try simp only [List.map_toArray, List.map_cons, List.map_nil]); first | done | rfl | (simp only [List.length_drop, List.length_take]; rfl)) ?_; (with_reducible refine (umpireref07_Between.calls k (fun k_ => ((P0_ k_ ∨ w.heap.size ≤ k_) ∧ (k_ ≠ gb499 ∧ k_ ≠ gb500))) _ _ l0 t501 _ ?side1 A4.out).mono ?_); (case side1 => exact HO0.out); rintro e w10 ⟨v502, rfl, ho0, hb⟩; refine ⟨_, rfl, ?_⟩; have n0_ := Aside0.mk (Kd.V_elder' (by (with_reducible repeat (first | apply Kd.V_alloc | apply Kd.V_drewN | apply Kd.V_drew)); exact HO0.out) (by first | exact Kd.N_base ho0 | exact Kd.N_base (Kd.S_N (Kd.S_bound ho0)) | exact Kd.R_base ho0 | exact Kd.S_base ho0) hb); have n1_ := Aside0.mk (Kd.N_lower (Kd.N_mono (ok' := fun k_ => (P0_ k_ ∨ w.heap.size ≤ k_) ∧ k_ ≠ gb499 ∧ k_ ≠ gb500) ho0 (fun k_ hk_ => ⟨Or.elim hk_ (fun hs_ => hs_.1) (fun hn_ => (.inr (Nat.le_trans (below_size (by repeat (first | (with_reducible first | exact HB.out | apply below_alloc | apply pw_below_drewN | apply below_drew1 | refine below_set ?_ GE499.out | refine below_set ?_ GE500.out) | exact HB.out))) hn_))), Or.elim hk_ (fun hs_ => hs_.2.1) (fun hn_ => (Kd.freshB (g := gb499) (o := .cells #[.int .i64 0, .int .i64 0, .int .i64 0, .int .i64 0, .int .i64 0] 40 (0, 0)) (by (with_reducible repeat (first | refine blk_drewN ?_ _ | refine blk_drew ?_ | refine blk_alloc ?_ _)); exact BK499.out) k_ hn_)), Or.elim hk_ (fun hs_ => hs_.2.2) (fun hn_ => (Kd.freshB (g := gb500) (o := .cells #[.int .i64 0, .int .i64 0, .int .i64 0, .int .i64 0, .int .i64 0] 40 (0, 0)) (by (with_reducible repeat (first | refine blk_drewN ?_ _ | refine blk_drew ?_ | refine blk_alloc ?_ _)); exact BK500.out) k_ hn_))⟩)) (below_size (by repeat (first | (with_reducible first | exact HB.out | apply below_alloc | apply pw_below_drewN | apply below_drew1 | refine below_set ?_ GE499.out | refine below_set ?_ GE500.out) | exact HB.out)))); have n2_ := Aside0.mk (blk_below (g := gb499) (o := .cells #[.int .i64 0, .int .i64 0, .int .i64 0, .int .i64 0, .int .i64 0] 40 (0, 0)) (by (with_reducible repeat (first | refine blk_drewN ?_ _ | refine blk_drew ?_ | refine blk_alloc ?_ _)); exact BK499.out) hb); have n3_ := Aside0.mk (blk_below (g := gb500) (o := .cells #[.int .i64 0, .int .i64 0, .int .i64 0, .int .i64 0, .int .i64 0] 40 (0, 0)) (by (with_reducible repeat (first | refine blk_drewN ?_ _ | refine blk_drew ?_ | refine blk_alloc ?_ _)); exact BK500.out) hb); have n4_ := Aside0.mk (below_step (by repeat (first | (with_reducible first | exact HB.out | apply below_alloc | apply pw_below_drewN | apply below_drew1 | refine below_set ?_ GE499.out | refine below_set ?_ GE500.out) | exact HB.out)) hb); clear HO0; clear BK499; clear BK500; clear HB; have HO0 := n0_; have HO503 := n1_; have BK499 := n2_; have BK500 := n3_; have HB := n4_; clear n0_ n1_ n2_ n3_ n4_; (try clear hb); (try clear hb2); (try clear hk); (try clear hi); (try clear ho0)))
  go_loopg [8, 11] k (fun kq v8 v11 w' => ∃ (x8_1 : List (List Int)) (x11_1 : Int) (x501000_1 : Int) (x501001_1 : Int) (x501002_1 : Int) (x501003_1 : Int) (x501004_1 : Int), v11 = .int .i64 x11_1 ∧ Aside0 (umpireref07_All.l0 kq a1 a2 x8_1 t501 x11_1 x501000_1 x501001_1 x501002_1 x501003_1 x501004_1 = some (r1, r2, r3, r4, r5, r6)) ∧ Aside0 (kq ≤ k) ∧ Aside0 (Kd.N (Kd.slice 5 (Kd.int .u8)) 26 w' w.heap.size (fun k_ => (P0_ k_ ∨ w.heap.size ≤ k_) ∧ some k_ ≠ (v502 : Value).ownBlock ∧ k_ ≠ gb499 ∧ k_ ≠ gb500) v8 x8_1) ∧ Aside0 (Kd.N (Kd.slice 5 (Kd.int .u8)) 26 w' w.heap.size (fun k_ => (P0_ k_ ∨ w.heap.size ≤ k_) ∧ some k_ ≠ (v8 : Value).ownBlock ∧ k_ ≠ gb499 ∧ k_ ≠ gb500) v502 t501) ∧ Aside0 (w'.heap[gb499]? = some (.cells #[.int .i64 0, .int .i64 0, .int .i64 0, .int .i64 0, .int .i64 0] 40 (0, 0))) ∧ Aside0 (w'.heap[gb500]? = some (.cells #[.int .i64 x501000_1, .int .i64 x501001_1, .int .i64 x501002_1, .int .i64 x501003_1, .int .i64 x501004_1] 40 (0, 0))) ∧ Aside0 (Below w.heap.size w w'))
  case atStart => exact ⟨(([] : List (List Int))), (0), (0), (0), (0), (0), (0), (by first | rfl | (simp; done) | (simp [*]; done)), H', ⟨Nat.le_refl _⟩, ⟨by first | exact Kd.S_nil _ _ _ _ _ | exact Kd.N_nil _ _ _ _ _ | exact Kd.V_nil _ _ _ _ _ | exact Kd.Q_nil _ _ _ _ _ | exact Kd.R_nil _ _ _ _ _⟩, ⟨by (with_reducible repeat (first | apply Kd.N_alloc | apply Kd.N_drewN | apply Kd.N_drew)); exact Kd.N_mono HO503.out (fun _ hk => ⟨hk.1, ⟨(by simp [Value.ownBlock]), ⟨hk.2.1, hk.2.2⟩⟩⟩)⟩, ⟨by (with_reducible repeat (first | refine blk_drewN ?_ _ | refine blk_drew ?_ | refine blk_alloc ?_ _)); exact BK499.out⟩, ⟨by (with_reducible repeat (first | refine blk_drewN ?_ _ | refine blk_drew ?_ | refine blk_alloc ?_ _)); exact BK500.out⟩, ⟨by repeat (first | (with_reducible first | exact HB.out | apply below_alloc | apply pw_below_drewN | apply below_drew1 | refine below_set ?_ GE499.out | refine below_set ?_ GE500.out) | exact HB.out)⟩⟩
  case round =>
    clear H'
    try clear c1
    try clear c2
    try clear p2
    try clear c7
    try clear hcz8_0
    try clear hcz8_1
    try clear hcz8_2
    try clear hcz8_3
    try clear hcz8_4
    try clear hfz8_0
    try clear hfz8_1
    try clear hfz8_2
    try clear hfz8_3
    try clear hfz8_4
    obtain ⟨x8_1, x11_1, x501000_1, x501001_1, x501002_1, x501003_1, x501004_1, rfl, HA, HK1, HO_8, HO_10, BK499, BK500, HB⟩ := hrel
    cases gk with
    | zero => exact absurd HA.out (by simp [umpireref07_All.l0])
    | succ k1 =>
      have H := HA.out
      clear HA
      simp only [umpireref07_All.l0] at H
      by_cases c11 : x11_1 < (t501.length : Int)
      · rw [if_pos c11] at H
        have c11b0 : decide (x11_1 < (t501.length : Int)) = true := decide_eq_true c11
        clear c11
        by_cases c12 : 0 ≤ x11_1
        · rw [if_pos c12] at H
          have c12b0 : decide (0 ≤ x11_1) = true := decide_eq_true c12
          clear c12
          replace H := Option.bind_eq_some_iff.mp H
          obtain ⟨⟨t505, t506⟩, A130, H⟩ := H
          replace H : (if t506 = 1 then (if x8_1.length < 5864062014805 then (umpireref07_All.j1 k1 a1 a2 (x8_1 ++ [t505]) t501 x11_1 t506 (wrap64 (x501000_1 + 1)) x501001_1 x501002_1 x501003_1 x501004_1) else (none)) else (umpireref07_All.j1 k1 a1 a2 x8_1 t501 x11_1 t506 x501000_1 x501001_1 x501002_1 x501003_1 x501004_1)) = some (r1, r2, r3, r4, r5, r6) := H
          have A13 := Aside0.mk A130
          clear A130
          have HC14 := Aside0.mk H
          clear H
          obtain ⟨Ao15, co15, eo15⟩ := Kd.N_slice HO_10.out
          subst eo15
          have p504 : 0 ≤ (x11_1 : Int) := of_decide_eq_true (by first | (with_reducible assumption) | assumption)
          have q504 : x11_1 < (t501.length : Int) := of_decide_eq_true (by first | (with_reducible assumption) | assumption)
          obtain ⟨ad504, A504_0, c504_0, e504, hx504_0, hl504_0, hi504_0⟩ := at_L1 (Kd.N_reads' HO_10.out).2.2 x11_1 p504 q504
          cases e504
          obtain ⟨ce504, hce504, hMe504, hcc504⟩ := Kd.N_get HO_10.out [] x11_1 p504 (by first | exact q504 | exact of_decide_eq_true (by first | (with_reducible assumption) | assumption) | (have e_ := (Kd.N_reads' HO_10.out).1; omega))
          obtain ⟨ua504_0, uc504_0, rfl, ul504_0, ge504_0⟩ := Kd.FK_slice_open hMe504
          have hv504_0 := hcc504 0 _ rfl
          rw [Nat.add_zero, show ((Kd.slice 5 (Kd.int .u8))).sz = 1 from rfl, Nat.mul_one] at hv504_0
          replace hv504_0 := Option.some.inj (hv504_0.symm.trans hx504_0)
          injection hv504_0 with hva_ hvn_ hvc_
          rw [hva_] at ge504_0
          rw [hvc_] at ul504_0
          have HL504_0 := Aside0.mk (show Kd.V (Kd.int .u8) 5 _ w.heap.size _ _ (rd_L1 t501 x11_1) from Kd.V_mk ul504_0 ge504_0)
          clear hva_ hvn_ hvc_ ge504_0 ul504_0
          clear hcc504 hce504
          have HR504_0 := Aside0.mk hi504_0
          have HC504_0 := Aside0.mk hl504_0
          clear hi504_0 hl504_0
          replace p504 := eq_true p504
          replace q504 := eq_true q504
          go_upto_if 34 with (first | ((with_reducible refine gate_callee (f := 28) rfl ?_); refine goesL_ (some 30) rfl rfl Try.func28 (by kernel_rfl) rfl #[.slice A504_0 (rd_L1 t501 x11_1).length c504_0, .int .u32 a1, .bool a2] rfl (by (try simp only [List.map_toArray, List.map_cons, List.map_nil]); first | done | rfl | (simp only [List.length_drop, List.length_take]; rfl)) ?_; (with_reducible refine (umpireref07_Judge.calls k1 _ _ (rd_L1 t501 x11_1) a1 a2 t505 t506 _ ?side1 ?side2 A13.out).mono ?_); (case side1 => repeat (first | exact (by repeat (first | (with_reducible exact HR504_0.out) | (with_reducible refine Kd.C_alloc ?_ _) | (with_reducible refine Kd.C_drewN ?_ _) | (with_reducible refine Kd.C_drew ?_) | exact HR504_0.out)) | (with_reducible refine Kd.C_alloc ?_ _) | (with_reducible refine Kd.C_drewN ?_ _) | (with_reducible refine Kd.C_drew ?_))); (case side2 => exact HC504_0.out); rintro e w16 ⟨v507, rfl, ho0, hb⟩; refine ⟨_, rfl, ?_⟩; have n0_ := Aside0.mk (Kd.N_elder' (by (with_reducible repeat (first | apply Kd.N_alloc | apply Kd.N_drewN | apply Kd.N_drew)); exact HO_8.out) (by first | exact Kd.R_base ho0 | exact Kd.N_base (Kd.S_N (Kd.S_bound ho0)) | exact Kd.R_base ho0 | exact Kd.S_base ho0) hb); have n1_ := Aside0.mk (Kd.N_elder' (by (with_reducible repeat (first | apply Kd.N_alloc | apply Kd.N_drewN | apply Kd.N_drew)); exact HO_10.out) (by first | exact Kd.R_base ho0 | exact Kd.N_base (Kd.S_N (Kd.S_bound ho0)) | exact Kd.R_base ho0 | exact Kd.S_base ho0) hb); have n2_ := Aside0.mk (Kd.V_elder' (by (with_reducible repeat (first | apply Kd.V_alloc | apply Kd.V_drewN | apply Kd.V_drew)); exact HL504_0.out) (by first | exact Kd.R_base ho0 | exact Kd.N_base (Kd.S_N (Kd.S_bound ho0)) | exact Kd.R_base ho0 | exact Kd.S_base ho0) hb); have n3_ := Aside0.mk (Kd.R_lower (Kd.R_newM (M := fun k_ => (w.heap.size ≤ k_)) ho0 (below_size (by repeat (first | (with_reducible first | exact HB.out | apply below_alloc | apply pw_below_drewN | apply below_drew1 | refine below_set ?_ GE499.out | refine below_set ?_ GE500.out) | exact HB.out))) (fun k_ h_ => h_)) (below_size (by repeat (first | (with_reducible first | exact HB.out | apply below_alloc | apply pw_below_drewN | apply below_drew1 | refine below_set ?_ GE499.out | refine below_set ?_ GE500.out) | exact HB.out)))); have n4_ := Aside0.mk (blk_below (g := gb499) (o := .cells #[.int .i64 0, .int .i64 0, .int .i64 0, .int .i64 0, .int .i64 0] 40 (0, 0)) (by (with_reducible repeat (first | refine blk_drewN ?_ _ | refine blk_drew ?_ | refine blk_alloc ?_ _)); exact BK499.out) hb); have n5_ := Aside0.mk (blk_below (g := gb500) (o := .cells #[.int .i64 x501000_1, .int .i64 x501001_1, .int .i64 x501002_1, .int .i64 x501003_1, .int .i64 x501004_1] 40 (0, 0)) (by (with_reducible repeat (first | refine blk_drewN ?_ _ | refine blk_drew ?_ | refine blk_alloc ?_ _)); exact BK500.out) hb); have n6_ := Aside0.mk (Kd.C_below (by repeat (first | (with_reducible exact HR504_0.out) | (with_reducible refine Kd.C_alloc ?_ _) | (with_reducible refine Kd.C_drewN ?_ _) | (with_reducible refine Kd.C_drew ?_) | exact HR504_0.out)) hb); have n7_ := Aside0.mk (below_step (by repeat (first | (with_reducible first | exact HB.out | apply below_alloc | apply pw_below_drewN | apply below_drew1 | refine below_set ?_ GE499.out | refine below_set ?_ GE500.out) | exact HB.out)) hb); clear HO_8; clear HO_10; clear HL504_0; clear BK499; clear BK500; clear HR504_0; clear HB; have HO_8 := n0_; have HO_10 := n1_; have HL504_0 := n2_; have HO508 := n3_; have BK499 := n4_; have BK500 := n5_; have HR504_0 := n6_; have HB := n7_; clear n0_ n1_ n2_ n3_ n4_ n5_ n6_ n7_; (try clear hb); (try clear hb2); (try clear hk); (try clear hi); (try clear ho0)))
          (try simp only [Act.put, List.setIfInBounds_toArray, List.set_cons_zero, List.set_cons_succ])
          go_cut [8] (fun v8 wc => ∃ (kq : Nat) (x8_13 : List (List Int)) (x501000_13 : Int), Aside0 (umpireref07_All.j1 kq a1 a2 x8_13 t501 x11_1 t506 x501000_13 x501001_1 x501002_1 x501003_1 x501004_1 = some (r1, r2, r3, r4, r5, r6)) ∧ Aside0 (kq ≤ k1) ∧ Aside0 (Kd.N (Kd.slice 5 (Kd.int .u8)) 26 wc w.heap.size (fun k_ => (P0_ k_ ∨ w.heap.size ≤ k_) ∧ some k_ ≠ ((.slice (some ad504) t501.length co15) : Value).ownBlock ∧ k_ ≠ gb499 ∧ k_ ≠ gb500) v8 x8_13) ∧ Aside0 (Kd.N (Kd.slice 5 (Kd.int .u8)) 26 wc w.heap.size (fun k_ => (P0_ k_ ∨ w.heap.size ≤ k_) ∧ some k_ ≠ (v8 : Value).ownBlock ∧ k_ ≠ gb499 ∧ k_ ≠ gb500) (.slice (some ad504) t501.length co15) t501) ∧ Aside0 (wc.heap[gb499]? = some (.cells #[.int .i64 0, .int .i64 0, .int .i64 0, .int .i64 0, .int .i64 0] 40 (0, 0))) ∧ Aside0 (wc.heap[gb500]? = some (.cells #[.int .i64 x501000_13, .int .i64 x501001_1, .int .i64 x501002_1, .int .i64 x501003_1, .int .i64 x501004_1] 40 (0, 0))) ∧ Aside0 (Below w.heap.size w wc))
          case first =>
            have H := HC14.out
            clear HC14
            by_cases c17 : t506 = 1
            · rw [if_pos c17] at H
              have c17b0 : (t506 == 1) = true := beq_iff_eq.mpr c17
              have c17b1 : (t506 != 1) = false := bne_eq_false_iff_eq.mpr c17
              clear c17
              (first | rw [c17b0] | (simp only [i64_w, i32_w]; rw [c17b0]) | skip)
              by_cases c18 : x8_1.length < 5864062014805
              · rw [if_pos c18] at H
                have LMc18 := Aside0.mk c18
                clear c18
                obtain ⟨y509, hy509⟩ : ∃ y_ : List (List Int), y_ = (x8_1 ++ [t505]) := ⟨_, rfl⟩
                replace H : (umpireref07_All.j1 k1 a1 a2 y509 t501 x11_1 t506 (wrap64 (x501000_1 + 1)) x501001_1 x501002_1 x501003_1 x501004_1) = some (r1, r2, r3, r4, r5, r6) := by first | (rw [hy509]; with_reducible exact H) | (have H2_ := (Option.bind_some _ _).symm.trans H; rw [hy509]; with_reducible exact H2_) | (have H2_ := (Option.bind_some _ _).symm.trans H; with_reducible exact H2_) | with_reducible exact H | (rw [hy509]; exact H) | exact H
                have Ny509 := Aside0.mk hy509
                clear hy509
                have H' := Aside0.mk H
                clear H
                obtain ⟨Ao20, co20, eo20⟩ := Kd.R_slice HO508.out
                subst eo20
                go_wp2_with (first | ((with_reducible refine gate_builtin (b := .append) (xs := #[.tmp 35, .tmp 37]) rfl ?_); at_builtin; refine Kd.N_append (Kd.slice 5 (Kd.int .u8)) (w0 := w) w.heap.size rfl (.tmp 35) (.tmp 37) 22 26 (.slice none 0 0) 24 rfl Try.underlying22 info26 rfl (by decide) (by omega) u8 x8_1 t505 [.slice Ao20 t505.length co20] (fun k_ => (P0_ k_ ∨ w.heap.size ≤ k_) ∧ some k_ ≠ (.slice (some ad504) t501.length co15 : Value).ownBlock ∧ k_ ≠ gb499 ∧ k_ ≠ gb500) (fun k_ => ((fun k_ => (P0_ k_ ∨ w.heap.size ≤ k_) ∧ some k_ ≠ (.slice (some ad504) t501.length co15 : Value).ownBlock ∧ k_ ≠ gb499 ∧ k_ ≠ gb500)) k_ ∧ some k_ ≠ (u8 : Value).ownBlock) rfl rfl ?aP (fun _ hk => hk) ?aF ?aO ?aB ?aS ?aL ?_; (case aP => exact (Kd.FK_slice_mk (Kd.R_reads' (Kd.R_mono (ok' := (fun k_ => ((fun k_ => (P0_ k_ ∨ w.heap.size ≤ k_) ∧ some k_ ≠ (.slice (some ad504) t501.length co15 : Value).ownBlock ∧ k_ ≠ gb499 ∧ k_ ≠ gb500)) k_ ∧ some k_ ≠ (u8 : Value).ownBlock)) (Kd.R_types (Kd.R_types (Kd.R_apart' (Kd.R_apart' (HO508.out) (Kd.N_typed HO_10.out) (by decide)) (Kd.N_typed HO_8.out) (by decide)) BK499.out (by decide)) BK500.out (by decide)) (fun k_ hk => ⟨⟨(.inr (hk.1.1.1.1.1)), ⟨hk.1.1.1.2, ⟨hk.1.2, hk.2⟩⟩⟩, hk.1.1.2⟩))).2.1 (Kd.R_F (Kd.R_mono (ok' := (fun k_ => ((fun k_ => (P0_ k_ ∨ w.heap.size ≤ k_) ∧ some k_ ≠ (.slice (some ad504) t501.length co15 : Value).ownBlock ∧ k_ ≠ gb499 ∧ k_ ≠ gb500)) k_ ∧ some k_ ≠ (u8 : Value).ownBlock)) (Kd.R_types (Kd.R_types (Kd.R_apart' (Kd.R_apart' (HO508.out) (Kd.N_typed HO_10.out) (by decide)) (Kd.N_typed HO_8.out) (by decide)) BK499.out (by decide)) BK500.out (by decide)) (fun k_ hk => ⟨⟨(.inr (hk.1.1.1.1.1)), ⟨hk.1.1.1.2, ⟨hk.1.2, hk.2⟩⟩⟩, hk.1.1.2⟩))))); (case aB => exact (by repeat (first | (with_reducible first | exact HB.out | apply below_alloc | apply pw_below_drewN | apply below_drew1 | refine below_set ?_ GE499.out | refine below_set ?_ GE500.out) | exact HB.out))); (case aF => exact (fun k_ hk => ⟨(.inr (Nat.le_trans (below_size (by repeat (first | (with_reducible first | exact HB.out | apply below_alloc | apply pw_below_drewN | apply below_drew1 | refine below_set ?_ GE499.out | refine below_set ?_ GE500.out) | exact HB.out))) hk)), Kd.fresh' (Kd.N_lt (by (with_reducible repeat (first | apply Kd.N_alloc | apply Kd.N_drewN | apply Kd.N_drew)); exact HO_10.out)) k_ hk, Kd.freshB (g := gb499) (o := .cells #[.int .i64 0, .int .i64 0, .int .i64 0, .int .i64 0, .int .i64 0] 40 (0, 0)) (by (with_reducible repeat (first | refine blk_drewN ?_ _ | refine blk_drew ?_ | refine blk_alloc ?_ _)); exact BK499.out) k_ hk, Kd.freshB (g := gb500) (o := .cells #[.int .i64 x501000_1, .int .i64 x501001_1, .int .i64 x501002_1, .int .i64 x501003_1, .int .i64 x501004_1] 40 (0, 0)) (by (with_reducible repeat (first | refine blk_drewN ?_ _ | refine blk_drew ?_ | refine blk_alloc ?_ _)); exact BK500.out) k_ hk⟩)); (case aO => exact (by (with_reducible repeat (first | apply Kd.N_alloc | apply Kd.N_drewN | apply Kd.N_drew)); exact Kd.N_mono HO_8.out (fun _ hk => ⟨hk.1.1, ⟨hk.1.2.1, ⟨hk.1.2.2.1, hk.1.2.2.2⟩⟩⟩))); (case aS => exact (below_size (by repeat (first | (with_reducible first | exact HB.out | apply below_alloc | apply pw_below_drewN | apply below_drew1 | refine below_set ?_ GE499.out | refine below_set ?_ GE500.out) | exact HB.out)))); (case aL => have := LMc18.out; omega); intro v510 w19 ho hb hg hat; rw [← Ny509.out] at ho; have n0_ := Aside0.mk (Kd.N_afterv (ok := (fun k_ => (P0_ k_ ∨ w.heap.size ≤ k_) ∧ some k_ ≠ (.slice Ao20 t505.length co20 : Value).ownBlock ∧ k_ ≠ gb499 ∧ k_ ≠ gb500)) (by (with_reducible repeat (first | apply Kd.N_alloc | apply Kd.N_drewN | apply Kd.N_drew)); exact Kd.N_mono HO_10.out (fun _ hk => ⟨⟨hk.1.1, ⟨hk.2, ⟨hk.1.2.2.1, hk.1.2.2.2⟩⟩⟩, hk.1.2.1⟩)) hg hat); have n1_ := Aside0.mk (blk_grown (g := gb499) (o := .cells #[.int .i64 0, .int .i64 0, .int .i64 0, .int .i64 0, .int .i64 0] 40 (0, 0)) (by (with_reducible repeat (first | refine blk_drewN ?_ _ | refine blk_drew ?_ | refine blk_alloc ?_ _)); exact BK499.out) hg (Kd.N_ne HO_8.out BK499.out (by decide))); have n2_ := Aside0.mk (blk_grown (g := gb500) (o := .cells #[.int .i64 x501000_1, .int .i64 x501001_1, .int .i64 x501002_1, .int .i64 x501003_1, .int .i64 x501004_1] 40 (0, 0)) (by (with_reducible repeat (first | refine blk_drewN ?_ _ | refine blk_drew ?_ | refine blk_alloc ?_ _)); exact BK500.out) hg (Kd.N_ne HO_8.out BK500.out (by decide))); have n3_ := Aside0.mk (Kd.V_afterv (ok := (fun k_ => (P0_ k_ ∨ w.heap.size ≤ k_) ∧ some k_ ≠ (.slice (some ad504) t501.length co15 : Value).ownBlock ∧ some k_ ≠ (.slice Ao20 t505.length co20 : Value).ownBlock ∧ k_ ≠ gb499 ∧ k_ ≠ gb500)) (by (with_reducible repeat (first | apply Kd.V_alloc | apply Kd.V_drewN | apply Kd.V_drew)); exact Kd.V_mono HL504_0.out (fun _ hk => ⟨⟨hk.1.1.1, ⟨hk.1.2, ⟨hk.2, ⟨hk.1.1.2.2.1, hk.1.1.2.2.2⟩⟩⟩⟩, hk.1.1.2.1⟩)) hg hat); have n4_ := Aside0.mk (hb); have n5_ := Aside0.mk (ho); clear HO_10; clear BK499; clear BK500; clear HL504_0; clear HB; clear HO_8; clear HO508; have HO_10 := n0_; have BK499 := n1_; have BK500 := n2_; have HL504_0 := n3_; have HB := n4_; have HO511 := n5_; clear n0_ n1_ n2_ n3_ n4_ n5_; clear ho hb hg hat; have hnb21 := NB500_499.out; have hnc21 := NB499_500.out; have hcz22_0 : w19.cell? ⟨gb500, 0, none⟩ = some (.int .i64 x501000_1) := (blk_cell BK500.out 0).trans rfl; have hcz22_1 : w19.cell? ⟨gb500, 1, none⟩ = some (.int .i64 x501001_1) := (blk_cell BK500.out 1).trans rfl; have hcz22_2 : w19.cell? ⟨gb500, 2, none⟩ = some (.int .i64 x501002_1) := (blk_cell BK500.out 2).trans rfl; have hcz22_3 : w19.cell? ⟨gb500, 3, none⟩ = some (.int .i64 x501003_1) := (blk_cell BK500.out 3).trans rfl; have hcz22_4 : w19.cell? ⟨gb500, 4, none⟩ = some (.int .i64 x501004_1) := (blk_cell BK500.out 4).trans rfl; have hfz22_0 := blk_frozen BK500.out 0; have hfz22_1 := blk_frozen BK500.out 1; have hfz22_2 := blk_frozen BK500.out 2; have hfz22_3 := blk_frozen BK500.out 3; have hfz22_4 := blk_frozen BK500.out 4))
                go_meet
                case rel => exact ⟨_, (y509), (wrap64 (x501000_1 + 1)), H', ⟨by have := HK1.out; first | omega | exact Nat.le_refl _⟩, ⟨by (with_reducible repeat (first | apply Kd.N_alloc | apply Kd.N_drewN | apply Kd.N_drew)); exact Kd.N_mono (Kd.N_far (p := ⟨gb500, 0, none⟩) (Kd.N_mono HO511.out (fun k_ hk => (⟨hk, hk.2.2.2⟩ : _ ∧ k_ ≠ gb500))) (fun _ hk => hk.2) (.int .i64 (wrap64 (x501000_1 + 1)))) (fun _ hk => ⟨hk.1.1, ⟨hk.1.2.1, ⟨hk.1.2.2.1, hk.1.2.2.2⟩⟩⟩)⟩, ⟨by (with_reducible repeat (first | apply Kd.N_alloc | apply Kd.N_drewN | apply Kd.N_drew)); exact Kd.N_mono (Kd.N_far (p := ⟨gb500, 0, none⟩) (Kd.N_mono HO_10.out (fun k_ hk => (⟨hk, hk.1.2.2.2⟩ : _ ∧ k_ ≠ gb500))) (fun _ hk => hk.2) (.int .i64 (wrap64 (x501000_1 + 1)))) (fun _ hk => ⟨hk.1.1.1, ⟨hk.1.2, ⟨hk.1.1.2.2.1, hk.1.1.2.2.2⟩⟩⟩)⟩, ⟨by (with_reducible repeat (first | refine blk_drewN ?_ _ | refine blk_drew ?_ | refine blk_alloc ?_ _)); refine blk_far ?_ NB499_500.out _; (with_reducible repeat (first | refine blk_drewN ?_ _ | refine blk_drew ?_ | refine blk_alloc ?_ _)); exact BK499.out⟩, ⟨by (with_reducible repeat (first | refine blk_drewN ?_ _ | refine blk_drew ?_ | refine blk_alloc ?_ _)); refine blk_put (cs := #[.int .i64 x501000_1, .int .i64 x501001_1, .int .i64 x501002_1, .int .i64 x501003_1, .int .i64 x501004_1]) ?_ 0 _ rfl; (with_reducible repeat (first | refine blk_drewN ?_ _ | refine blk_drew ?_ | refine blk_alloc ?_ _)); exact BK500.out⟩, ⟨by repeat (first | (with_reducible first | exact HB.out | apply below_alloc | apply pw_below_drewN | apply below_drew1 | refine below_set ?_ GE499.out | refine below_set ?_ GE500.out) | exact HB.out)⟩⟩
              · rw [if_neg c18] at H
                exact absurd H (by simp)
            · rw [if_neg c17] at H
              have c17b0 : (t506 == 1) = false := beq_eq_false_iff_ne.mpr c17
              have c17b1 : (t506 != 1) = true := bne_iff_ne.mpr c17
              (first | rw [c17b0] | (simp only [i64_w, i32_w]; rw [c17b0]) | skip)
              have H' := Aside0.mk H
              clear H
              go_wp2
              go_meet
              case rel => exact ⟨_, (x8_1), (x501000_1), H', ⟨by have := HK1.out; first | omega | exact Nat.le_refl _⟩, ⟨by (with_reducible repeat (first | apply Kd.N_alloc | apply Kd.N_drewN | apply Kd.N_drew)); exact Kd.N_mono HO_8.out (fun _ hk => ⟨hk.1.1, ⟨hk.1.2.1, ⟨hk.1.2.2.1, hk.1.2.2.2⟩⟩⟩)⟩, ⟨by (with_reducible repeat (first | apply Kd.N_alloc | apply Kd.N_drewN | apply Kd.N_drew)); exact Kd.N_mono HO_10.out (fun _ hk => ⟨hk.1.1, ⟨hk.1.2.1, ⟨hk.1.2.2.1, hk.1.2.2.2⟩⟩⟩)⟩, ⟨by (with_reducible repeat (first | refine blk_drewN ?_ _ | refine blk_drew ?_ | refine blk_alloc ?_ _)); exact BK499.out⟩, ⟨by (with_reducible repeat (first | refine blk_drewN ?_ _ | refine blk_drew ?_ | refine blk_alloc ?_ _)); exact BK500.out⟩, ⟨by repeat (first | (with_reducible first | exact HB.out | apply below_alloc | apply pw_below_drewN | apply below_drew1 | refine below_set ?_ GE499.out | refine below_set ?_ GE500.out) | exact HB.out)⟩⟩
          case rest =>
            clear HC14
            try clear c1
            try clear c2
            try clear p2
            try clear c5
            try clear p5
            try clear q5
            try clear hx5
            try clear p6
            try clear c7
            try clear c11
            try clear c11b0
            try clear c12
            try clear c12b0
            try clear c17
            try clear c17b0
            try clear c17b1
            try clear c18
            try clear c19
            try clear c21
            try clear hcz22_0
            try clear hcz22_1
            try clear hcz22_2
            try clear hcz22_3
            try clear hcz22_4
            try clear hcz8_0
            try clear hcz8_1
            try clear hcz8_2
            try clear hcz8_3
            try clear hcz8_4
            try clear hfz22_0
            try clear hfz22_1
            try clear hfz22_2
            try clear hfz22_3
            try clear hfz22_4
            try clear hfz8_0
            try clear hfz8_1
            try clear hfz8_2
            try clear hfz8_3
            try clear hfz8_4
            try clear hx504_0
            try clear p2
            try clear p504
            try clear q504
            obtain ⟨kq, x8_13, x501000_13, HA, HJ13, HO_8, HO_10, BK499, BK500, HB⟩ := hcut
            cases kq with
            | zero => exact absurd HA.out (by simp [umpireref07_All.j1])
            | succ kj13 =>
              have H := HA.out
              clear HA
              simp only [umpireref07_All.j1] at H
              have HC23 := Aside0.mk H
              clear H
              go_upto_if 44 with (fail)
              go_cut [] (fun wc => ∃ (kq : Nat) (x501001_22 : Int), Aside0 (umpireref07_All.j2 kq a1 a2 x8_13 t501 x11_1 t506 x501000_13 x501001_22 x501002_1 x501003_1 x501004_1 = some (r1, r2, r3, r4, r5, r6)) ∧ Aside0 (kq ≤ kj13) ∧ Aside0 (Kd.N (Kd.slice 5 (Kd.int .u8)) 26 wc w.heap.size (fun k_ => (P0_ k_ ∨ w.heap.size ≤ k_) ∧ some k_ ≠ ((.slice (some ad504) t501.length co15) : Value).ownBlock ∧ k_ ≠ gb499 ∧ k_ ≠ gb500) u8 x8_13) ∧ Aside0 (Kd.N (Kd.slice 5 (Kd.int .u8)) 26 wc w.heap.size (fun k_ => (P0_ k_ ∨ w.heap.size ≤ k_) ∧ some k_ ≠ (u8 : Value).ownBlock ∧ k_ ≠ gb499 ∧ k_ ≠ gb500) (.slice (some ad504) t501.length co15) t501) ∧ Aside0 (wc.heap[gb499]? = some (.cells #[.int .i64 0, .int .i64 0, .int .i64 0, .int .i64 0, .int .i64 0] 40 (0, 0))) ∧ Aside0 (wc.heap[gb500]? = some (.cells #[.int .i64 x501000_13, .int .i64 x501001_22, .int .i64 x501002_1, .int .i64 x501003_1, .int .i64 x501004_1] 40 (0, 0))) ∧ Aside0 (Below w.heap.size w wc))
              case first =>
                have H := HC23.out
                clear HC23
                by_cases c24 : t506 = 2
                · rw [if_pos c24] at H
                  have c24b0 : (t506 == 2) = true := beq_iff_eq.mpr c24
                  have c24b1 : (t506 != 2) = false := bne_eq_false_iff_eq.mpr c24
                  clear c24
                  (first | rw [c24b0] | (simp only [i64_w, i32_w]; rw [c24b0]) | skip)
                  have H' := Aside0.mk H
                  clear H
                  have hnb25 := NB500_499.out
                  have hnc25 := NB499_500.out
                  have hcz26_0 : wc.cell? ⟨gb500, 0, none⟩ = some (.int .i64 x501000_13) := (blk_cell BK500.out 0).trans rfl
                  have hcz26_1 : wc.cell? ⟨gb500, 1, none⟩ = some (.int .i64 x501001_1) := (blk_cell BK500.out 1).trans rfl
                  have hcz26_2 : wc.cell? ⟨gb500, 2, none⟩ = some (.int .i64 x501002_1) := (blk_cell BK500.out 2).trans rfl
                  have hcz26_3 : wc.cell? ⟨gb500, 3, none⟩ = some (.int .i64 x501003_1) := (blk_cell BK500.out 3).trans rfl
                  have hcz26_4 : wc.cell? ⟨gb500, 4, none⟩ = some (.int .i64 x501004_1) := (blk_cell BK500.out 4).trans rfl
                  have hfz26_0 := blk_frozen BK500.out 0
                  have hfz26_1 := blk_frozen BK500.out 1
                  have hfz26_2 := blk_frozen BK500.out 2
                  have hfz26_3 := blk_frozen BK500.out 3
                  have hfz26_4 := blk_frozen BK500.out 4
                  go_wp2
                  go_meet
                  case rel => exact ⟨_, (wrap64 (x501001_1 + 1)), H', ⟨by have := HK1.out; have := HJ13.out; first | omega | exact Nat.le_refl _⟩, ⟨by (with_reducible repeat (first | apply Kd.N_alloc | apply Kd.N_drewN | apply Kd.N_drew)); exact Kd.N_mono (Kd.N_far (p := ⟨gb500, 1, none⟩) (Kd.N_mono HO_8.out (fun k_ hk => (⟨hk, hk.2.2.2⟩ : _ ∧ k_ ≠ gb500))) (fun _ hk => hk.2) (.int .i64 (wrap64 (x501001_1 + 1)))) (fun _ hk => ⟨hk.1.1, ⟨hk.1.2.1, ⟨hk.1.2.2.1, hk.1.2.2.2⟩⟩⟩)⟩, ⟨by (with_reducible repeat (first | apply Kd.N_alloc | apply Kd.N_drewN | apply Kd.N_drew)); exact Kd.N_mono (Kd.N_far (p := ⟨gb500, 1, none⟩) (Kd.N_mono HO_10.out (fun k_ hk => (⟨hk, hk.2.2.2⟩ : _ ∧ k_ ≠ gb500))) (fun _ hk => hk.2) (.int .i64 (wrap64 (x501001_1 + 1)))) (fun _ hk => ⟨hk.1.1, ⟨hk.1.2.1, ⟨hk.1.2.2.1, hk.1.2.2.2⟩⟩⟩)⟩, ⟨by (with_reducible repeat (first | refine blk_drewN ?_ _ | refine blk_drew ?_ | refine blk_alloc ?_ _)); refine blk_far ?_ NB499_500.out _; (with_reducible repeat (first | refine blk_drewN ?_ _ | refine blk_drew ?_ | refine blk_alloc ?_ _)); exact BK499.out⟩, ⟨by (with_reducible repeat (first | refine blk_drewN ?_ _ | refine blk_drew ?_ | refine blk_alloc ?_ _)); refine blk_put (cs := #[.int .i64 x501000_13, .int .i64 x501001_1, .int .i64 x501002_1, .int .i64 x501003_1, .int .i64 x501004_1]) ?_ 1 _ rfl; (with_reducible repeat (first | refine blk_drewN ?_ _ | refine blk_drew ?_ | refine blk_alloc ?_ _)); exact BK500.out⟩, ⟨by repeat (first | (with_reducible first | exact HB.out | apply below_alloc | apply pw_below_drewN | apply below_drew1 | refine below_set ?_ GE499.out | refine below_set ?_ GE500.out) | exact HB.out)⟩⟩
                · rw [if_neg c24] at H
                  have c24b0 : (t506 == 2) = false := beq_eq_false_iff_ne.mpr c24
                  have c24b1 : (t506 != 2) = true := bne_iff_ne.mpr c24
                  (first | rw [c24b0] | (simp only [i64_w, i32_w]; rw [c24b0]) | skip)
                  have H' := Aside0.mk H
                  clear H
                  go_wp2
                  go_meet
                  case rel => exact ⟨_, (x501001_1), H', ⟨by have := HK1.out; have := HJ13.out; first | omega | exact Nat.le_refl _⟩, ⟨by (with_reducible repeat (first | apply Kd.N_alloc | apply Kd.N_drewN | apply Kd.N_drew)); exact HO_8.out⟩, ⟨by (with_reducible repeat (first | apply Kd.N_alloc | apply Kd.N_drewN | apply Kd.N_drew)); exact HO_10.out⟩, ⟨by (with_reducible repeat (first | refine blk_drewN ?_ _ | refine blk_drew ?_ | refine blk_alloc ?_ _)); exact BK499.out⟩, ⟨by (with_reducible repeat (first | refine blk_drewN ?_ _ | refine blk_drew ?_ | refine blk_alloc ?_ _)); exact BK500.out⟩, ⟨by repeat (first | (with_reducible first | exact HB.out | apply below_alloc | apply pw_below_drewN | apply below_drew1 | refine below_set ?_ GE499.out | refine below_set ?_ GE500.out) | exact HB.out)⟩⟩
              case rest =>
                clear HC23
                try clear c1
                try clear c2
                try clear p2
                try clear c5
                try clear p5
                try clear q5
                try clear hx5
                try clear p6
                try clear c7
                try clear c11
                try clear c11b0
                try clear c12
                try clear c12b0
                try clear c17
                try clear c17b0
                try clear c17b1
                try clear c18
                try clear c19
                try clear c21
                try clear c24
                try clear c24b0
                try clear c24b1
                try clear c25
                try clear hcz22_0
                try clear hcz22_1
                try clear hcz22_2
                try clear hcz22_3
                try clear hcz22_4
                try clear hcz26_0
                try clear hcz26_1
                try clear hcz26_2
                try clear hcz26_3
                try clear hcz26_4
                try clear hcz8_0
                try clear hcz8_1
                try clear hcz8_2
                try clear hcz8_3
                try clear hcz8_4
                try clear hfz22_0
                try clear hfz22_1
                try clear hfz22_2
                try clear hfz22_3
                try clear hfz22_4
                try clear hfz26_0
                try clear hfz26_1
                try clear hfz26_2
                try clear hfz26_3
                try clear hfz26_4
                try clear hfz8_0
                try clear hfz8_1
                try clear hfz8_2
                try clear hfz8_3
                try clear hfz8_4
                try clear hx504_0
                try clear p2
                try clear p5
                try clear p504
                try clear p6
                try clear q5
                try clear q504
                obtain ⟨kq, x501001_22, HA, HJ22, HO_8, HO_10, BK499, BK500, HB⟩ := hcut
                cases kq with
                | zero => exact absurd HA.out (by simp [umpireref07_All.j2])
                | succ kj22 =>
                  have H := HA.out
                  clear HA
                  simp only [umpireref07_All.j2] at H
                  have HC27 := Aside0.mk H
                  clear H
                  go_upto_if 50 with (fail)
                  go_cut [] (fun wc => ∃ (kq : Nat) (x501002_26 : Int), Aside0 (umpireref07_All.j3 kq a1 a2 x8_13 t501 x11_1 t506 x501000_13 x501001_22 x501002_26 x501003_1 x501004_1 = some (r1, r2, r3, r4, r5, r6)) ∧ Aside0 (kq ≤ kj22) ∧ Aside0 (Kd.N (Kd.slice 5 (Kd.int .u8)) 26 wc w.heap.size (fun k_ => (P0_ k_ ∨ w.heap.size ≤ k_) ∧ some k_ ≠ ((.slice (some ad504) t501.length co15) : Value).ownBlock ∧ k_ ≠ gb499 ∧ k_ ≠ gb500) u8 x8_13) ∧ Aside0 (Kd.N (Kd.slice 5 (Kd.int .u8)) 26 wc w.heap.size (fun k_ => (P0_ k_ ∨ w.heap.size ≤ k_) ∧ some k_ ≠ (u8 : Value).ownBlock ∧ k_ ≠ gb499 ∧ k_ ≠ gb500) (.slice (some ad504) t501.length co15) t501) ∧ Aside0 (wc.heap[gb499]? = some (.cells #[.int .i64 0, .int .i64 0, .int .i64 0, .int .i64 0, .int .i64 0] 40 (0, 0))) ∧ Aside0 (wc.heap[gb500]? = some (.cells #[.int .i64 x501000_13, .int .i64 x501001_22, .int .i64 x501002_26, .int .i64 x501003_1, .int .i64 x501004_1] 40 (0, 0))) ∧ Aside0 (Below w.heap.size w wc))
                  case first =>
                    have H := HC27.out
                    clear HC27
                    by_cases c28 : t506 = 3
                    · rw [if_pos c28] at H
                      have c28b0 : (t506 == 3) = true := beq_iff_eq.mpr c28
                      have c28b1 : (t506 != 3) = false := bne_eq_false_iff_eq.mpr c28
                      clear c28
                      (first | rw [c28b0] | (simp only [i64_w, i32_w]; rw [c28b0]) | skip)
                      have H' := Aside0.mk H
                      clear H
                      have hnb29 := NB500_499.out
                      have hnc29 := NB499_500.out
                      have hcz30_0 : wc.cell? ⟨gb500, 0, none⟩ = some (.int .i64 x501000_13) := (blk_cell BK500.out 0).trans rfl
                      have hcz30_1 : wc.cell? ⟨gb500, 1, none⟩ = some (.int .i64 x501001_22) := (blk_cell BK500.out 1).trans rfl
                      have hcz30_2 : wc.cell? ⟨gb500, 2, none⟩ = some (.int .i64 x501002_1) := (blk_cell BK500.out 2).trans rfl
                      have hcz30_3 : wc.cell? ⟨gb500, 3, none⟩ = some (.int .i64 x501003_1) := (blk_cell BK500.out 3).trans rfl
                      have hcz30_4 : wc.cell? ⟨gb500, 4, none⟩ = some (.int .i64 x501004_1) := (blk_cell BK500.out 4).trans rfl
                      have hfz30_0 := blk_frozen BK500.out 0
                      have hfz30_1 := blk_frozen BK500.out 1
                      have hfz30_2 := blk_frozen BK500.out 2
                      have hfz30_3 := blk_frozen BK500.out 3
                      have hfz30_4 := blk_frozen BK500.out 4
                      go_wp2
                      go_meet
                      case rel => exact ⟨_, (wrap64 (x501002_1 + 1)), H', ⟨by have := HK1.out; have := HJ13.out; have := HJ22.out; first | omega | exact Nat.le_refl _⟩, ⟨by (with_reducible repeat (first | apply Kd.N_alloc | apply Kd.N_drewN | apply Kd.N_drew)); exact Kd.N_mono (Kd.N_far (p := ⟨gb500, 2, none⟩) (Kd.N_mono HO_8.out (fun k_ hk => (⟨hk, hk.2.2.2⟩ : _ ∧ k_ ≠ gb500))) (fun _ hk => hk.2) (.int .i64 (wrap64 (x501002_1 + 1)))) (fun _ hk => ⟨hk.1.1, ⟨hk.1.2.1, ⟨hk.1.2.2.1, hk.1.2.2.2⟩⟩⟩)⟩, ⟨by (with_reducible repeat (first | apply Kd.N_alloc | apply Kd.N_drewN | apply Kd.N_drew)); exact Kd.N_mono (Kd.N_far (p := ⟨gb500, 2, none⟩) (Kd.N_mono HO_10.out (fun k_ hk => (⟨hk, hk.2.2.2⟩ : _ ∧ k_ ≠ gb500))) (fun _ hk => hk.2) (.int .i64 (wrap64 (x501002_1 + 1)))) (fun _ hk => ⟨hk.1.1, ⟨hk.1.2.1, ⟨hk.1.2.2.1, hk.1.2.2.2⟩⟩⟩)⟩, ⟨by (with_reducible repeat (first | refine blk_drewN ?_ _ | refine blk_drew ?_ | refine blk_alloc ?_ _)); refine blk_far ?_ NB499_500.out _; (with_reducible repeat (first | refine blk_drewN ?_ _ | refine blk_drew ?_ | refine blk_alloc ?_ _)); exact BK499.out⟩, ⟨by (with_reducible repeat (first | refine blk_drewN ?_ _ | refine blk_drew ?_ | refine blk_alloc ?_ _)); refine blk_put (cs := #[.int .i64 x501000_13, .int .i64 x501001_22, .int .i64 x501002_1, .int .i64 x501003_1, .int .i64 x501004_1]) ?_ 2 _ rfl; (with_reducible repeat (first | refine blk_drewN ?_ _ | refine blk_drew ?_ | refine blk_alloc ?_ _)); exact BK500.out⟩, ⟨by repeat (first | (with_reducible first | exact HB.out | apply below_alloc | apply pw_below_drewN | apply below_drew1 | refine below_set ?_ GE499.out | refine below_set ?_ GE500.out) | exact HB.out)⟩⟩
                    · rw [if_neg c28] at H
                      have c28b0 : (t506 == 3) = false := beq_eq_false_iff_ne.mpr c28
                      have c28b1 : (t506 != 3) = true := bne_iff_ne.mpr c28
                      (first | rw [c28b0] | (simp only [i64_w, i32_w]; rw [c28b0]) | skip)
                      have H' := Aside0.mk H
                      clear H
                      go_wp2
                      go_meet
                      case rel => exact ⟨_, (x501002_1), H', ⟨by have := HK1.out; have := HJ13.out; have := HJ22.out; first | omega | exact Nat.le_refl _⟩, ⟨by (with_reducible repeat (first | apply Kd.N_alloc | apply Kd.N_drewN | apply Kd.N_drew)); exact HO_8.out⟩, ⟨by (with_reducible repeat (first | apply Kd.N_alloc | apply Kd.N_drewN | apply Kd.N_drew)); exact HO_10.out⟩, ⟨by (with_reducible repeat (first | refine blk_drewN ?_ _ | refine blk_drew ?_ | refine blk_alloc ?_ _)); exact BK499.out⟩, ⟨by (with_reducible repeat (first | refine blk_drewN ?_ _ | refine blk_drew ?_ | refine blk_alloc ?_ _)); exact BK500.out⟩, ⟨by repeat (first | (with_reducible first | exact HB.out | apply below_alloc | apply pw_below_drewN | apply below_drew1 | refine below_set ?_ GE499.out | refine below_set ?_ GE500.out) | exact HB.out)⟩⟩
                  case rest =>
                    clear HC27
                    try clear c1
                    try clear c2
                    try clear p2
                    try clear c5
                    try clear p5
                    try clear q5
                    try clear hx5
                    try clear p6
                    try clear c7
                    try clear c11
                    try clear c11b0
                    try clear c12
                    try clear c12b0
                    try clear c17
                    try clear c17b0
                    try clear c17b1
                    try clear c18
                    try clear c19
                    try clear c21
                    try clear c24
                    try clear c24b0
                    try clear c24b1
                    try clear c25
                    try clear c27
                    try clear c28
                    try clear c28b0
                    try clear c28b1
                    try clear c29
                    try clear hcz22_0
                    try clear hcz22_1
                    try clear hcz22_2
                    try clear hcz22_3
                    try clear hcz22_4
                    try clear hcz26_0
                    try clear hcz26_1
                    try clear hcz26_2
                    try clear hcz26_3
                    try clear hcz26_4
                    try clear hcz30_0
                    try clear hcz30_1
                    try clear hcz30_2
                    try clear hcz30_3
                    try clear hcz30_4
                    try clear hcz8_0
                    try clear hcz8_1
                    try clear hcz8_2
                    try clear hcz8_3
                    try clear hcz8_4
                    try clear hfz22_0
                    try clear hfz22_1
                    try clear hfz22_2
                    try clear hfz22_3
                    try clear hfz22_4
                    try clear hfz26_0
                    try clear hfz26_1
                    try clear hfz26_2
                    try clear hfz26_3
                    try clear hfz26_4
                    try clear hfz30_0
                    try clear hfz30_1
                    try clear hfz30_2
                    try clear hfz30_3
                    try clear hfz30_4
                    try clear hfz8_0
                    try clear hfz8_1
                    try clear hfz8_2
                    try clear hfz8_3
                    try clear hfz8_4
                    try clear hx504_0
                    try clear p2
                    try clear p5
                    try clear p504
                    try clear p6
                    try clear q5
                    try clear q504
                    obtain ⟨kq, x501002_26, HA, HJ26, HO_8, HO_10, BK499, BK500, HB⟩ := hcut
                    cases kq with
                    | zero => exact absurd HA.out (by simp [umpireref07_All.j3])
                    | succ kj26 =>
                      have H := HA.out
                      clear HA
                      simp only [umpireref07_All.j3] at H
                      by_cases c31 : t506 = 4
                      · rw [if_pos c31] at H
                        have c31b0 : (t506 == 4) = true := beq_iff_eq.mpr c31
                        have c31b1 : (t506 != 4) = false := bne_eq_false_iff_eq.mpr c31
                        clear c31
                        by_cases c32 : t506 = 5
                        · rw [if_pos c32] at H
                          have c32b0 : (t506 == 5) = true := beq_iff_eq.mpr c32
                          have c32b1 : (t506 != 5) = false := bne_eq_false_iff_eq.mpr c32
                          clear c32
                          have H' := Aside0.mk H
                          clear H
                          have hnb33 := NB500_499.out
                          have hnc33 := NB499_500.out
                          have hcz34_0 : wc.cell? ⟨gb500, 0, none⟩ = some (.int .i64 x501000_13) := (blk_cell BK500.out 0).trans rfl
                          have hcz34_1 : wc.cell? ⟨gb500, 1, none⟩ = some (.int .i64 x501001_22) := (blk_cell BK500.out 1).trans rfl
                          have hcz34_2 : wc.cell? ⟨gb500, 2, none⟩ = some (.int .i64 x501002_26) := (blk_cell BK500.out 2).trans rfl
                          have hcz34_3 : wc.cell? ⟨gb500, 3, none⟩ = some (.int .i64 x501003_1) := (blk_cell BK500.out 3).trans rfl
                          have hcz34_4 : wc.cell? ⟨gb500, 4, none⟩ = some (.int .i64 x501004_1) := (blk_cell BK500.out 4).trans rfl
                          have hfz34_0 := blk_frozen BK500.out 0
                          have hfz34_1 := blk_frozen BK500.out 1
                          have hfz34_2 := blk_frozen BK500.out 2
                          have hfz34_3 := blk_frozen BK500.out 3
                          have hfz34_4 := blk_frozen BK500.out 4
                          go_wp2
                          go_roundg kj26
                          case measure => have := HK1.out; have := HJ13.out; have := HJ22.out; have := HJ26.out; omega
                          case rel => exact ⟨(x8_13), (wrap64 (x11_1 + 1)), (x501000_13), (x501001_22), (x501002_26), (wrap64 (x501003_1 + 1)), (wrap64 (x501004_1 + 1)), (by first | rfl | (simp; done) | (simp [*]; done)), H', ⟨by have := HK1.out; have := HJ13.out; have := HJ22.out; have := HJ26.out; omega⟩, ⟨by (with_reducible repeat (first | apply Kd.N_alloc | apply Kd.N_drewN | apply Kd.N_drew)); exact Kd.N_mono (Kd.N_far (p := ⟨gb500, 4, none⟩) (Kd.N_far (p := ⟨gb500, 3, none⟩) (Kd.N_mono HO_8.out (fun k_ hk => (⟨hk, hk.2.2.2⟩ : _ ∧ k_ ≠ gb500))) (fun _ hk => hk.2) (.int .i64 (wrap64 (x501003_1 + 1)))) (fun _ hk => hk.2) (.int .i64 (wrap64 (x501004_1 + 1)))) (fun _ hk => ⟨hk.1.1, ⟨hk.1.2.1, ⟨hk.1.2.2.1, hk.1.2.2.2⟩⟩⟩)⟩, ⟨by (with_reducible repeat (first | apply Kd.N_alloc | apply Kd.N_drewN | apply Kd.N_drew)); exact Kd.N_mono (Kd.N_far (p := ⟨gb500, 4, none⟩) (Kd.N_far (p := ⟨gb500, 3, none⟩) (Kd.N_mono HO_10.out (fun k_ hk => (⟨hk, hk.2.2.2⟩ : _ ∧ k_ ≠ gb500))) (fun _ hk => hk.2) (.int .i64 (wrap64 (x501003_1 + 1)))) (fun _ hk => hk.2) (.int .i64 (wrap64 (x501004_1 + 1)))) (fun _ hk => ⟨hk.1.1, ⟨hk.1.2.1, ⟨hk.1.2.2.1, hk.1.2.2.2⟩⟩⟩)⟩, ⟨by (with_reducible repeat (first | refine blk_drewN ?_ _ | refine blk_drew ?_ | refine blk_alloc ?_ _)); refine blk_far ?_ NB499_500.out _; (with_reducible repeat (first | refine blk_drewN ?_ _ | refine blk_drew ?_ | refine blk_alloc ?_ _)); refine blk_far ?_ NB499_500.out _; (with_reducible repeat (first | refine blk_drewN ?_ _ | refine blk_drew ?_ | refine blk_alloc ?_ _)); exact BK499.out⟩, ⟨by (with_reducible repeat (first | refine blk_drewN ?_ _ | refine blk_drew ?_ | refine blk_alloc ?_ _)); refine blk_put (cs := #[.int .i64 x501000_13, .int .i64 x501001_22, .int .i64 x501002_26, .int .i64 (wrap64 (x501003_1 + 1)), .int .i64 x501004_1]) ?_ 4 _ rfl; (with_reducible repeat (first | refine blk_drewN ?_ _ | refine blk_drew ?_ | refine blk_alloc ?_ _)); refine blk_put (cs := #[.int .i64 x501000_13, .int .i64 x501001_22, .int .i64 x501002_26, .int .i64 x501003_1, .int .i64 x501004_1]) ?_ 3 _ rfl; (with_reducible repeat (first | refine blk_drewN ?_ _ | refine blk_drew ?_ | refine blk_alloc ?_ _)); exact BK500.out⟩, ⟨by repeat (first | (with_reducible first | exact HB.out | apply below_alloc | apply pw_below_drewN | apply below_drew1 | refine below_set ?_ GE499.out | refine below_set ?_ GE500.out) | exact HB.out)⟩⟩
                        · rw [if_neg c32] at H
                          have c32b0 : (t506 == 5) = false := beq_eq_false_iff_ne.mpr c32
                          have c32b1 : (t506 != 5) = true := bne_iff_ne.mpr c32
                          have H' := Aside0.mk H
                          clear H
                          have hnb35 := NB500_499.out
                          have hnc35 := NB499_500.out
                          have hcz36_0 : wc.cell? ⟨gb500, 0, none⟩ = some (.int .i64 x501000_13) := (blk_cell BK500.out 0).trans rfl
                          have hcz36_1 : wc.cell? ⟨gb500, 1, none⟩ = some (.int .i64 x501001_22) := (blk_cell BK500.out 1).trans rfl
                          have hcz36_2 : wc.cell? ⟨gb500, 2, none⟩ = some (.int .i64 x501002_26) := (blk_cell BK500.out 2).trans rfl
                          have hcz36_3 : wc.cell? ⟨gb500, 3, none⟩ = some (.int .i64 x501003_1) := (blk_cell BK500.out 3).trans rfl
                          have hcz36_4 : wc.cell? ⟨gb500, 4, none⟩ = some (.int .i64 x501004_1) := (blk_cell BK500.out 4).trans rfl
                          have hfz36_0 := blk_frozen BK500.out 0
                          have hfz36_1 := blk_frozen BK500.out 1
                          have hfz36_2 := blk_frozen BK500.out 2
                          have hfz36_3 := blk_frozen BK500.out 3
                          have hfz36_4 := blk_frozen BK500.out 4
                          go_wp2
                          go_roundg kj26
                          case measure => have := HK1.out; have := HJ13.out; have := HJ22.out; have := HJ26.out; omega
                          case rel => exact ⟨(x8_13), (wrap64 (x11_1 + 1)), (x501000_13), (x501001_22), (x501002_26), (wrap64 (x501003_1 + 1)), (x501004_1), (by first | rfl | (simp; done) | (simp [*]; done)), H', ⟨by have := HK1.out; have := HJ13.out; have := HJ22.out; have := HJ26.out; omega⟩, ⟨by (with_reducible repeat (first | apply Kd.N_alloc | apply Kd.N_drewN | apply Kd.N_drew)); exact Kd.N_mono (Kd.N_far (p := ⟨gb500, 3, none⟩) (Kd.N_mono HO_8.out (fun k_ hk => (⟨hk, hk.2.2.2⟩ : _ ∧ k_ ≠ gb500))) (fun _ hk => hk.2) (.int .i64 (wrap64 (x501003_1 + 1)))) (fun _ hk => ⟨hk.1.1, ⟨hk.1.2.1, ⟨hk.1.2.2.1, hk.1.2.2.2⟩⟩⟩)⟩, ⟨by (with_reducible repeat (first | apply Kd.N_alloc | apply Kd.N_drewN | apply Kd.N_drew)); exact Kd.N_mono (Kd.N_far (p := ⟨gb500, 3, none⟩) (Kd.N_mono HO_10.out (fun k_ hk => (⟨hk, hk.2.2.2⟩ : _ ∧ k_ ≠ gb500))) (fun _ hk => hk.2) (.int .i64 (wrap64 (x501003_1 + 1)))) (fun _ hk => ⟨hk.1.1, ⟨hk.1.2.1, ⟨hk.1.2.2.1, hk.1.2.2.2⟩⟩⟩)⟩, ⟨by (with_reducible repeat (first | refine blk_drewN ?_ _ | refine blk_drew ?_ | refine blk_alloc ?_ _)); refine blk_far ?_ NB499_500.out _; (with_reducible repeat (first | refine blk_drewN ?_ _ | refine blk_drew ?_ | refine blk_alloc ?_ _)); exact BK499.out⟩, ⟨by (with_reducible repeat (first | refine blk_drewN ?_ _ | refine blk_drew ?_ | refine blk_alloc ?_ _)); refine blk_put (cs := #[.int .i64 x501000_13, .int .i64 x501001_22, .int .i64 x501002_26, .int .i64 x501003_1, .int .i64 x501004_1]) ?_ 3 _ rfl; (with_reducible repeat (first | refine blk_drewN ?_ _ | refine blk_drew ?_ | refine blk_alloc ?_ _)); exact BK500.out⟩, ⟨by repeat (first | (with_reducible first | exact HB.out | apply below_alloc | apply pw_below_drewN | apply below_drew1 | refine below_set ?_ GE499.out | refine below_set ?_ GE500.out) | exact HB.out)⟩⟩
                      · rw [if_neg c31] at H
                        have c31b0 : (t506 == 4) = false := beq_eq_false_iff_ne.mpr c31
                        have c31b1 : (t506 != 4) = true := bne_iff_ne.mpr c31
                        by_cases c37 : t506 = 5
                        · rw [if_pos c37] at H
                          have c37b0 : (t506 == 5) = true := beq_iff_eq.mpr c37
                          have c37b1 : (t506 != 5) = false := bne_eq_false_iff_eq.mpr c37
                          clear c37
                          have H' := Aside0.mk H
                          clear H
                          have hnb38 := NB500_499.out
                          have hnc38 := NB499_500.out
                          have hcz39_0 : wc.cell? ⟨gb500, 0, none⟩ = some (.int .i64 x501000_13) := (blk_cell BK500.out 0).trans rfl
                          have hcz39_1 : wc.cell? ⟨gb500, 1, none⟩ = some (.int .i64 x501001_22) := (blk_cell BK500.out 1).trans rfl
                          have hcz39_2 : wc.cell? ⟨gb500, 2, none⟩ = some (.int .i64 x501002_26) := (blk_cell BK500.out 2).trans rfl
                          have hcz39_3 : wc.cell? ⟨gb500, 3, none⟩ = some (.int .i64 x501003_1) := (blk_cell BK500.out 3).trans rfl
                          have hcz39_4 : wc.cell? ⟨gb500, 4, none⟩ = some (.int .i64 x501004_1) := (blk_cell BK500.out 4).trans rfl
                          have hfz39_0 := blk_frozen BK500.out 0
                          have hfz39_1 := blk_frozen BK500.out 1
                          have hfz39_2 := blk_frozen BK500.out 2
                          have hfz39_3 := blk_frozen BK500.out 3
                          have hfz39_4 := blk_frozen BK500.out 4
                          go_wp2
                          go_roundg kj26
                          case measure => have := HK1.out; have := HJ13.out; have := HJ22.out; have := HJ26.out; omega
                          case rel => exact ⟨(x8_13), (wrap64 (x11_1 + 1)), (x501000_13), (x501001_22), (x501002_26), (x501003_1), (wrap64 (x501004_1 + 1)), (by first | rfl | (simp; done) | (simp [*]; done)), H', ⟨by have := HK1.out; have := HJ13.out; have := HJ22.out; have := HJ26.out; omega⟩, ⟨by (with_reducible repeat (first | apply Kd.N_alloc | apply Kd.N_drewN | apply Kd.N_drew)); exact Kd.N_mono (Kd.N_far (p := ⟨gb500, 4, none⟩) (Kd.N_mono HO_8.out (fun k_ hk => (⟨hk, hk.2.2.2⟩ : _ ∧ k_ ≠ gb500))) (fun _ hk => hk.2) (.int .i64 (wrap64 (x501004_1 + 1)))) (fun _ hk => ⟨hk.1.1, ⟨hk.1.2.1, ⟨hk.1.2.2.1, hk.1.2.2.2⟩⟩⟩)⟩, ⟨by (with_reducible repeat (first | apply Kd.N_alloc | apply Kd.N_drewN | apply Kd.N_drew)); exact Kd.N_mono (Kd.N_far (p := ⟨gb500, 4, none⟩) (Kd.N_mono HO_10.out (fun k_ hk => (⟨hk, hk.2.2.2⟩ : _ ∧ k_ ≠ gb500))) (fun _ hk => hk.2) (.int .i64 (wrap64 (x501004_1 + 1)))) (fun _ hk => ⟨hk.1.1, ⟨hk.1.2.1, ⟨hk.1.2.2.1, hk.1.2.2.2⟩⟩⟩)⟩, ⟨by (with_reducible repeat (first | refine blk_drewN ?_ _ | refine blk_drew ?_ | refine blk_alloc ?_ _)); refine blk_far ?_ NB499_500.out _; (with_reducible repeat (first | refine blk_drewN ?_ _ | refine blk_drew ?_ | refine blk_alloc ?_ _)); exact BK499.out⟩, ⟨by (with_reducible repeat (first | refine blk_drewN ?_ _ | refine blk_drew ?_ | refine blk_alloc ?_ _)); refine blk_put (cs := #[.int .i64 x501000_13, .int .i64 x501001_22, .int .i64 x501002_26, .int .i64 x501003_1, .int .i64 x501004_1]) ?_ 4 _ rfl; (with_reducible repeat (first | refine blk_drewN ?_ _ | refine blk_drew ?_ | refine blk_alloc ?_ _)); exact BK500.out⟩, ⟨by repeat (first | (with_reducible first | exact HB.out | apply below_alloc | apply pw_below_drewN | apply below_drew1 | refine below_set ?_ GE499.out | refine below_set ?_ GE500.out) | exact HB.out)⟩⟩
                        · rw [if_neg c37] at H
                          have c37b0 : (t506 == 5) = false := beq_eq_false_iff_ne.mpr c37
                          have c37b1 : (t506 != 5) = true := bne_iff_ne.mpr c37
                          have H' := Aside0.mk H
                          clear H
                          go_wp2
                          go_roundg kj26
                          case measure => have := HK1.out; have := HJ13.out; have := HJ22.out; have := HJ26.out; omega
                          case rel => exact ⟨(x8_13), (wrap64 (x11_1 + 1)), (x501000_13), (x501001_22), (x501002_26), (x501003_1), (x501004_1), (by first | rfl | (simp; done) | (simp [*]; done)), H', ⟨by have := HK1.out; have := HJ13.out; have := HJ22.out; have := HJ26.out; omega⟩, ⟨by (with_reducible repeat (first | apply Kd.N_alloc | apply Kd.N_drewN | apply Kd.N_drew)); exact HO_8.out⟩, ⟨by (with_reducible repeat (first | apply Kd.N_alloc | apply Kd.N_drewN | apply Kd.N_drew)); exact HO_10.out⟩, ⟨by (with_reducible repeat (first | refine blk_drewN ?_ _ | refine blk_drew ?_ | refine blk_alloc ?_ _)); exact BK499.out⟩, ⟨by (with_reducible repeat (first | refine blk_drewN ?_ _ | refine blk_drew ?_ | refine blk_alloc ?_ _)); exact BK500.out⟩, ⟨by repeat (first | (with_reducible first | exact HB.out | apply below_alloc | apply pw_below_drewN | apply below_drew1 | refine below_set ?_ GE499.out | refine below_set ?_ GE500.out) | exact HB.out)⟩⟩
        · rw [if_neg c12] at H
          exact absurd H (by simp)
      · rw [if_neg c11] at H
        have c11b0 : decide (x11_1 < (t501.length : Int)) = false := decide_eq_false c11
        clear c11
        simp only [Option.some.injEq, Prod.mk.injEq] at H
        obtain ⟨rfl, rfl, rfl, rfl, rfl, rfl⟩ := H
        obtain ⟨Ao40, co40, eo40⟩ := Kd.N_slice HO_10.out
        subst eo40
        try go_wp2
        have n0_ := Aside0.mk (Kd.N_drew HO_8.out)
        have n1_ := Aside0.mk (Kd.N_drew HO_10.out)
        have n2_ := Aside0.mk (blk_drew BK499.out)
        have n3_ := Aside0.mk (blk_drew BK500.out)
        have n4_ := Aside0.mk (below_drew1 HB.out)
        clear HO_8
        clear HO_10
        clear BK499
        clear BK500
        clear HB
        have HO_8 := n0_
        have HO_10 := n1_
        have BK499 := n2_
        have BK500 := n3_
        have HB := n4_
        clear n0_ n1_ n2_ n3_ n4_
        refine start_ (n := 4) (S := fun w' => w'.cell? ⟨gb500, 0, none⟩ = some (.int .i64 x501000_1) ∧ w'.cell? ⟨gb500, 1, none⟩ = some (.int .i64 x501001_1) ∧ w'.cell? ⟨gb500, 2, none⟩ = some (.int .i64 x501002_1) ∧ w'.cell? ⟨gb500, 3, none⟩ = some (.int .i64 x501003_1) ∧ w'.cell? ⟨gb500, 4, none⟩ = some (.int .i64 x501004_1)) (ds := []) #[false, false, false, false] (by kernel_rfl) rfl rfl ⟨(blk_cell BK500.out 0).trans rfl, (blk_cell BK500.out 1).trans rfl, (blk_cell BK500.out 2).trans rfl, (blk_cell BK500.out 3).trans rfl, (blk_cell BK500.out 4).trans rfl⟩ (fun hHeld => ?_)
        generalize wr.drew = w41 at HO_8 HO_10 BK499 BK500 HB hHeld ⊢
        refine pure_ (i := 0) (N := some 67) (v := ?_) (a' := ?_) #[true, false, false, false] rfl rfl (by kernel_rfl) (fun _ _ _ h => h) (Or.inl ⟨by rfl, ?_⟩) ?_ ?_
        rotate_left
        · intro w'
          go_simp
          with_reducible rfl
        rotate_left
        · simp only [Act.put, List.setIfInBounds_toArray, List.set_cons_zero, List.set_cons_succ, i64_w, i32_w]
          rfl
        refine pure_ (i := 2) (N := some 6) (v := ?_) (a' := ?_) #[true, false, true, false] rfl rfl (by kernel_rfl) (fun _ _ _ h => h) (Or.inl ⟨by rfl, ?_⟩) ?_ ?_
        rotate_left
        · intro w'
          go_simp
          with_reducible rfl
        rotate_left
        · simp only [Act.put, List.setIfInBounds_toArray, List.set_cons_zero, List.set_cons_succ, i64_w, i32_w]
          rfl
        refine take_ (i := 1) (N := some 68) (v := ?_) (a' := ?_) #[true, true, true, false] rfl rfl (by kernel_rfl) (fun _ _ _ h => h) (Or.inl ⟨by rfl, ?_⟩) hHeld ?_ ?_
        rotate_left
        · rintro w' ⟨s0, s1, s2, s3, s4⟩
          go_simp
          with_reducible rfl
        rotate_left
        · simp only [Act.put, List.setIfInBounds_toArray, List.set_cons_zero, List.set_cons_succ, i64_w, i32_w]
          rfl
        refine one_ (i := 3) (N := none) #[true, true, true, true] rfl rfl (by kernel_rfl) (by decide) (fun K hK => ?_)
        have hs42 : w41.cell? ⟨gb499, 0, none⟩ = some (.int .i64 0) := (blk_cell BK499.out 0).trans rfl
        have hfs42 := blk_frozen BK499.out 0
        have hns42_1 := NB500_499.out
        have hms42_1 := NB499_500.out
        have hs43 : w41.cell? ⟨gb499, 1, none⟩ = some (.int .i64 0) := (blk_cell BK499.out 1).trans rfl
        have hfs43 := blk_frozen BK499.out 1
        have hns43_1 := NB500_499.out
        have hms43_1 := NB499_500.out
        have hs44 : w41.cell? ⟨gb499, 2, none⟩ = some (.int .i64 0) := (blk_cell BK499.out 2).trans rfl
        have hfs44 := blk_frozen BK499.out 2
        have hns44_1 := NB500_499.out
        have hms44_1 := NB499_500.out
        have hs45 : w41.cell? ⟨gb499, 3, none⟩ = some (.int .i64 0) := (blk_cell BK499.out 3).trans rfl
        have hfs45 := blk_frozen BK499.out 3
        have hns45_1 := NB500_499.out
        have hms45_1 := NB499_500.out
        have hs46 : w41.cell? ⟨gb499, 4, none⟩ = some (.int .i64 0) := (blk_cell BK499.out 4).trans rfl
        have hfs46 := blk_frozen BK499.out 4
        have hns46_1 := NB500_499.out
        have hms46_1 := NB499_500.out
        refine skip_ (w1 := ?_) (by rfl) rfl ?_ ?_
        rotate_left
        · go_simp
          rfl
        refine hK.out _ _ ⟨((cell_far (p := ⟨gb499, _, none⟩) NB500_499.out _).trans (((cell_far (p := ⟨gb499, _, none⟩) NB500_499.out _).trans (((cell_far (p := ⟨gb499, _, none⟩) NB500_499.out _).trans (((cell_far (p := ⟨gb499, _, none⟩) NB500_499.out _).trans (((cell_far (p := ⟨gb499, _, none⟩) NB500_499.out _).trans (hHeld.1)))))))))), ((cell_far (p := ⟨gb499, _, none⟩) NB500_499.out _).trans (((cell_far (p := ⟨gb499, _, none⟩) NB500_499.out _).trans (((cell_far (p := ⟨gb499, _, none⟩) NB500_499.out _).trans (((cell_far (p := ⟨gb499, _, none⟩) NB500_499.out _).trans (((cell_far (p := ⟨gb499, _, none⟩) NB500_499.out _).trans (hHeld.2.1)))))))))), ((cell_far (p := ⟨gb499, _, none⟩) NB500_499.out _).trans (((cell_far (p := ⟨gb499, _, none⟩) NB500_499.out _).trans (((cell_far (p := ⟨gb499, _, none⟩) NB500_499.out _).trans (((cell_far (p := ⟨gb499, _, none⟩) NB500_499.out _).trans (((cell_far (p := ⟨gb499, _, none⟩) NB500_499.out _).trans (hHeld.2.2.1)))))))))), ((cell_far (p := ⟨gb499, _, none⟩) NB500_499.out _).trans (((cell_far (p := ⟨gb499, _, none⟩) NB500_499.out _).trans (((cell_far (p := ⟨gb499, _, none⟩) NB500_499.out _).trans (((cell_far (p := ⟨gb499, _, none⟩) NB500_499.out _).trans (((cell_far (p := ⟨gb499, _, none⟩) NB500_499.out _).trans (hHeld.2.2.2.1)))))))))), ((cell_far (p := ⟨gb499, _, none⟩) NB500_499.out _).trans (((cell_far (p := ⟨gb499, _, none⟩) NB500_499.out _).trans (((cell_far (p := ⟨gb499, _, none⟩) NB500_499.out _).trans (((cell_far (p := ⟨gb499, _, none⟩) NB500_499.out _).trans (((cell_far (p := ⟨gb499, _, none⟩) NB500_499.out _).trans (hHeld.2.2.2.2))))))))))⟩ (fun hHeld => ?_)
        clear hK K
        refine done_ (by kernel_rfl) ?_
        try go_wp2
        refine bodyPost_ret (results_tc rfl _ _ gb499 40 #[.int .i64 x501000_1, .int .i64 x501001_1, .int .i64 x501002_1, .int .i64 x501003_1, .int .i64 x501004_1] (0, 0) _ rfl (by (with_reducible repeat (first | refine blk_drewN ?_ _ | refine blk_drew ?_ | refine blk_alloc ?_ _)); refine blk_put (cs := #[.int .i64 x501000_1, .int .i64 x501001_1, .int .i64 x501002_1, .int .i64 x501003_1, .int .i64 0]) ?_ 4 _ rfl; (with_reducible repeat (first | refine blk_drewN ?_ _ | refine blk_drew ?_ | refine blk_alloc ?_ _)); refine blk_put (cs := #[.int .i64 x501000_1, .int .i64 x501001_1, .int .i64 x501002_1, .int .i64 0, .int .i64 0]) ?_ 3 _ rfl; (with_reducible repeat (first | refine blk_drewN ?_ _ | refine blk_drew ?_ | refine blk_alloc ?_ _)); refine blk_put (cs := #[.int .i64 x501000_1, .int .i64 x501001_1, .int .i64 0, .int .i64 0, .int .i64 0]) ?_ 2 _ rfl; (with_reducible repeat (first | refine blk_drewN ?_ _ | refine blk_drew ?_ | refine blk_alloc ?_ _)); refine blk_put (cs := #[.int .i64 x501000_1, .int .i64 0, .int .i64 0, .int .i64 0, .int .i64 0]) ?_ 1 _ rfl; (with_reducible repeat (first | refine blk_drewN ?_ _ | refine blk_drew ?_ | refine blk_alloc ?_ _)); refine blk_put (cs := #[.int .i64 0, .int .i64 0, .int .i64 0, .int .i64 0, .int .i64 0]) ?_ 0 _ rfl; (with_reducible repeat (first | refine blk_drewN ?_ _ | refine blk_drew ?_ | refine blk_alloc ?_ _)); exact BK499.out) Try.underlying40 rfl (by kernel_rfl)) rfl ?_
        exact ⟨_, by first | rfl | (simp [errW_none, errW_some] <;> rfl) | (simp [*, errW_none, errW_some] <;> rfl), by (with_reducible repeat (first | apply Kd.N_alloc | apply Kd.N_drewN | apply Kd.N_drew)); exact Kd.N_mono (Kd.N_far (p := ⟨gb499, 4, none⟩) (Kd.N_far (p := ⟨gb499, 3, none⟩) (Kd.N_far (p := ⟨gb499, 2, none⟩) (Kd.N_far (p := ⟨gb499, 1, none⟩) (Kd.N_far (p := ⟨gb499, 0, none⟩) (Kd.N_mono HO_8.out (fun k_ hk => (⟨hk, hk.2.2.1⟩ : _ ∧ k_ ≠ gb499))) (fun _ hk => hk.2) (.int .i64 x501000_1)) (fun _ hk => hk.2) (.int .i64 x501001_1)) (fun _ hk => hk.2) (.int .i64 x501002_1)) (fun _ hk => hk.2) (.int .i64 x501003_1)) (fun _ hk => hk.2) (.int .i64 x501004_1)) (fun _ hk => hk.1.1), by repeat (first | (with_reducible first | exact HB.out | apply below_alloc | apply pw_below_drewN | apply below_drew1 | refine below_set ?_ GE499.out | refine below_set ?_ GE500.out) | exact HB.out)⟩

end Go.Proofs.Ytgnonglkibhnhaa.Print
