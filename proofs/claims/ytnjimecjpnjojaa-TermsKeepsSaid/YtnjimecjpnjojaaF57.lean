-- laid by this session's own program (wip/mkprint.sh) for this claim
import Derived.Test.Ytnjimecjpnjojaa0
import Derived.Test.YtnjimecjpnjojaaF78
namespace Go.Proofs.Ytnjimecjpnjojaa.Print
open Go.RowKit Go.Proofs.YtnjimecjpnjojaaW.PrintWords Go.Proofs.YtnjimecjpnjojaaW.PrintLast Go.Proofs.YtnjimecjpnjojaaW.PrintMore
attribute [local go_sem] max2_int min2_int max_two min_two max_three min_three max_four min_four   -- for this text's walks alone
set_option linter.unusedVariables false
set_option linter.unusedSimpArgs false

/-! ### terms_may: function 57 -/
def terms_may.j0 : Nat → Bool → Bool → Int → Bool → Int → Int → Bool → Bool → Int → Bool → Bool → Option (Bool)
  | 0, _, _, _, _, _, _, _, _, _, _, _ => none
  | k + 1, x3, x570000, x570001, x570002, x570003, x570004, x570005, x570006, x570007, x570008, x570009 => if x3 = true then (some false) else (if x570000 = true then (if x570002 = true then (some (x570006 == (x570007 != 0))) else (if x570003 = 0 then (some (x570006 == (x570007 != 0))) else (some false))) else (if x570001 = 0 then (if x570002 = true then (some (x570006 == (x570007 != 0))) else (if x570003 = 0 then (some (x570006 == (x570007 != 0))) else (some false))) else (some false)))
def terms_may.f (k : Nat) (a0_0 : Bool) (a0_1 : Int) (a0_2 : Bool) (a0_3 : Int) (a0_4 : Int) (a0_5 : Bool) (a0_6 : Bool) (a0_7 : Int) (a0_8 : Bool) (a0_9 : Bool) : Option (Bool) := (octet_Fits.f (IntKind.u64.wrap (a0_1)) 2).bind fun t570 => (if t570 = true then (if a0_4 = 0 then (terms_may.j0 k false a0_0 a0_1 a0_2 a0_3 a0_4 a0_5 a0_6 a0_7 a0_8 a0_9) else (if a0_4 = 49187 then (terms_may.j0 k false a0_0 a0_1 a0_2 a0_3 a0_4 a0_5 a0_6 a0_7 a0_8 a0_9) else (terms_may.j0 k (a0_4 != 49699) a0_0 a0_1 a0_2 a0_3 a0_4 a0_5 a0_6 a0_7 a0_8 a0_9))) else (terms_may.j0 k true a0_0 a0_1 a0_2 a0_3 a0_4 a0_5 a0_6 a0_7 a0_8 a0_9))
theorem terms_may.mono_l : ∀ k, (∀ y0 y1 y2 y3 y4 y5 y6 y7 y8 y9 y10, LeO (terms_may.j0 k y0 y1 y2 y3 y4 y5 y6 y7 y8 y9 y10) (terms_may.j0 (k + 1) y0 y1 y2 y3 y4 y5 y6 y7 y8 y9 y10))
  | 0 => fun _ _ _ _ _ _ _ _ _ _ _ r h => by simp [terms_may.j0] at h
  | k + 1 => by
    have ih0 := terms_may.mono_l k
    · intro y0 y1 y2 y3 y4 y5 y6 y7 y8 y9 y10
      unfold terms_may.j0
      repeat' first
      | (with_reducible exact ih0 _ _ _ _ _ _ _ _ _ _ _)
      | (with_reducible exact LeO.refl _)
      | (with_reducible exact LeO.none _)
      | (with_reducible refine LeO.ite ?_ ?_)
      | (with_reducible refine LeO.bind ?_ (fun _ => ?_))
      | exact ih0 _ _ _ _ _ _ _ _ _ _ _
      | exact LeO.none _
      | refine LeO.ite ?_ ?_
      | refine LeO.bind ?_ (fun _ => ?_)
theorem terms_may.mono : ∀ a0 a1 a2 a3 a4 a5 a6 a7 a8 a9 k, LeO (terms_may.f k a0 a1 a2 a3 a4 a5 a6 a7 a8 a9) (terms_may.f (k + 1) a0 a1 a2 a3 a4 a5 a6 a7 a8 a9) := by
  intro a0 a1 a2 a3 a4 a5 a6 a7 a8 a9 k
  have ih0 := terms_may.mono_l k
  unfold terms_may.f
  repeat' first
      | (with_reducible exact ih0 _ _ _ _ _ _ _ _ _ _ _)
      | (with_reducible exact LeO.refl _)
      | (with_reducible exact LeO.none _)
      | (with_reducible refine LeO.ite ?_ ?_)
      | (with_reducible refine LeO.bind ?_ (fun _ => ?_))
      | exact ih0 _ _ _ _ _ _ _ _ _ _ _
      | exact LeO.none _
      | refine LeO.ite ?_ ?_
      | refine LeO.bind ?_ (fun _ => ?_)
set_option maxHeartbeats 8000000 in
set_option maxRecDepth 100000 in
theorem terms_may.calls (k : Nat) (a0_0 : Bool) (a0_1 : Int) (a0_2 : Bool) (a0_3 : Int) (a0_4 : Int) (a0_5 : Bool) (a0_6 : Bool) (a0_7 : Int) (a0_8 : Bool) (a0_9 : Bool) (r : Bool) (w : World) (h : terms_may.f k a0_0 a0_1 a0_2 a0_3 a0_4 a0_5 a0_6 a0_7 a0_8 a0_9 = some r) :
    Calls Try.prog 57 #[.agg #[.bool a0_0, .int .i64 a0_1, .bool a0_2, .int .u32 a0_3, .int .i64 a0_4, .bool a0_5, .bool a0_6, .int .u32 a0_7, .bool a0_8, .bool a0_9]] w fun e w' => e = .returned (.bool r) ∧ Below w.heap.size w w' := by
  have hu61 := Try.underlying61
  have HB := Aside0.mk (Below.refl w.heap.size w)
  have H : ((octet_Fits.f (IntKind.u64.wrap (a0_1)) 2).bind fun t570 => (if t570 = true then (if a0_4 = 0 then (terms_may.j0 k false a0_0 a0_1 a0_2 a0_3 a0_4 a0_5 a0_6 a0_7 a0_8 a0_9) else (if a0_4 = 49187 then (terms_may.j0 k false a0_0 a0_1 a0_2 a0_3 a0_4 a0_5 a0_6 a0_7 a0_8 a0_9) else (terms_may.j0 k (a0_4 != 49699) a0_0 a0_1 a0_2 a0_3 a0_4 a0_5 a0_6 a0_7 a0_8 a0_9))) else (terms_may.j0 k true a0_0 a0_1 a0_2 a0_3 a0_4 a0_5 a0_6 a0_7 a0_8 a0_9))) = some r := h
  clear h
  have HC2 := Aside0.mk H
  clear H
  go_enter Try.func57, Try.ntmps57
  go_upto_region 1 with (first | ((with_reducible refine gate_dst (N := 1) rfl ?_); refine box_event ?hg (N := 1) ?hd (cs := #[.bool a0_0, .int .i64 a0_1, .bool a0_2, .int .u32 a0_3, .int .i64 a0_4, .bool a0_5, .bool a0_6, .int .u32 a0_7, .bool a0_8, .bool a0_9]) (t := 61) ?hr ?_; (case hd => rfl); (case hg => rfl); (case hr => first | (go_simp; done) | (go_simp; rfl)); intro gb569 hg w3 hbox hb; have n0_ := Aside0.mk (below_step (by repeat (first | (with_reducible first | exact HB.out | apply below_alloc | apply pw_below_drewN | apply below_drew1) | exact HB.out)) hb); have n1_ := Aside0.mk (hbox); have n2_ := Aside0.mk ((by rw [hg]; exact (below_size (by repeat (first | (with_reducible first | exact HB.out | apply below_alloc | apply pw_below_drewN | apply below_drew1) | exact HB.out))) : w.heap.size ≤ gb569)); have n3_ := Aside0.mk ((by rw [hg]; exact (below_size (by repeat (first | (with_reducible first | exact HB.out | apply below_alloc | apply pw_below_drewN | apply below_drew1) | exact HB.out))) : w.heap.size ≤ gb569)); clear HB; have HB := n0_; have BK569 := n1_; have GW569 := n2_; have GE569 := n3_; clear n0_ n1_ n2_ n3_; clear hb hbox hg))
  (try simp only [Act.put, List.setIfInBounds_toArray, List.set_cons_zero, List.set_cons_succ])
  go_cut [3] (fun v3 wc => ∃ (kq : Nat) (x3_1 : Bool), v3 = .bool x3_1 ∧ Aside0 (terms_may.j0 kq x3_1 a0_0 a0_1 a0_2 a0_3 a0_4 a0_5 a0_6 a0_7 a0_8 a0_9 = some r) ∧ Aside0 (kq ≤ k) ∧ Aside0 (wc.heap[gb569]? = some (.cells #[.bool a0_0, .int .i64 a0_1, .bool a0_2, .int .u32 a0_3, .int .i64 a0_4, .bool a0_5, .bool a0_6, .int .u32 a0_7, .bool a0_8, .bool a0_9] 61 (0, 0))) ∧ Aside0 (Below w.heap.size w wc))
  case first =>
    have H := HC2.out
    clear HC2
    replace H := Option.bind_eq_some_iff.mp H
    obtain ⟨t570, A40, H⟩ := H
    replace H : (if t570 = true then (if a0_4 = 0 then (terms_may.j0 k false a0_0 a0_1 a0_2 a0_3 a0_4 a0_5 a0_6 a0_7 a0_8 a0_9) else (if a0_4 = 49187 then (terms_may.j0 k false a0_0 a0_1 a0_2 a0_3 a0_4 a0_5 a0_6 a0_7 a0_8 a0_9) else (terms_may.j0 k (a0_4 != 49699) a0_0 a0_1 a0_2 a0_3 a0_4 a0_5 a0_6 a0_7 a0_8 a0_9))) else (terms_may.j0 k true a0_0 a0_1 a0_2 a0_3 a0_4 a0_5 a0_6 a0_7 a0_8 a0_9)) = some r := H
    have A4 := Aside0.mk A40
    clear A40
    by_cases c5 : t570 = true
    · subst c5
      have H1 : (if a0_4 = 0 then (terms_may.j0 k false a0_0 a0_1 a0_2 a0_3 a0_4 a0_5 a0_6 a0_7 a0_8 a0_9) else (if a0_4 = 49187 then (terms_may.j0 k false a0_0 a0_1 a0_2 a0_3 a0_4 a0_5 a0_6 a0_7 a0_8 a0_9) else (terms_may.j0 k (a0_4 != 49699) a0_0 a0_1 a0_2 a0_3 a0_4 a0_5 a0_6 a0_7 a0_8 a0_9))) = some r := by rw [if_pos rfl] at H; exact H
      clear H
      have H := H1
      clear H1
      by_cases c6 : a0_4 = 0
      · rw [if_pos c6] at H
        have c6b0 : (a0_4 == 0) = true := beq_iff_eq.mpr c6
        have c6b1 : (a0_4 != 0) = false := bne_eq_false_iff_eq.mpr c6
        clear c6
        (first | rw [c6b0] | (simp only [i64_w, i32_w]; rw [c6b0]) | skip)
        have H' := Aside0.mk H
        clear H
        have hcz7_0 : w3.cell? ⟨gb569, 0, none⟩ = some (.bool a0_0) := (blk_cell BK569.out 0).trans rfl
        have hcz7_1 : w3.cell? ⟨gb569, 1, none⟩ = some (.int .i64 a0_1) := (blk_cell BK569.out 1).trans rfl
        have hcz7_2 : w3.cell? ⟨gb569, 2, none⟩ = some (.bool a0_2) := (blk_cell BK569.out 2).trans rfl
        have hcz7_3 : w3.cell? ⟨gb569, 3, none⟩ = some (.int .u32 a0_3) := (blk_cell BK569.out 3).trans rfl
        have hcz7_4 : w3.cell? ⟨gb569, 4, none⟩ = some (.int .i64 a0_4) := (blk_cell BK569.out 4).trans rfl
        have hcz7_5 : w3.cell? ⟨gb569, 5, none⟩ = some (.bool a0_5) := (blk_cell BK569.out 5).trans rfl
        have hcz7_6 : w3.cell? ⟨gb569, 6, none⟩ = some (.bool a0_6) := (blk_cell BK569.out 6).trans rfl
        have hcz7_7 : w3.cell? ⟨gb569, 7, none⟩ = some (.int .u32 a0_7) := (blk_cell BK569.out 7).trans rfl
        have hcz7_8 : w3.cell? ⟨gb569, 8, none⟩ = some (.bool a0_8) := (blk_cell BK569.out 8).trans rfl
        have hcz7_9 : w3.cell? ⟨gb569, 9, none⟩ = some (.bool a0_9) := (blk_cell BK569.out 9).trans rfl
        have hfz7_0 := blk_frozen BK569.out 0
        have hfz7_1 := blk_frozen BK569.out 1
        have hfz7_2 := blk_frozen BK569.out 2
        have hfz7_3 := blk_frozen BK569.out 3
        have hfz7_4 := blk_frozen BK569.out 4
        have hfz7_5 := blk_frozen BK569.out 5
        have hfz7_6 := blk_frozen BK569.out 6
        have hfz7_7 := blk_frozen BK569.out 7
        have hfz7_8 := blk_frozen BK569.out 8
        have hfz7_9 := blk_frozen BK569.out 9
        go_wp2_with (first | ((with_reducible refine gate_callee (f := 78) rfl ?_); refine goesL_ (some 7) rfl rfl Try.func78 (by kernel_rfl) rfl #[.int .u64 (IntKind.u64.wrap (a0_1)), .int .i64 2] rfl (by (try simp only [List.map_toArray, List.map_cons, List.map_nil]); first | done | rfl | (simp only [List.length_drop, List.length_take]; rfl)) ?_; (with_reducible refine (octet_Fits.calls (IntKind.u64.wrap (a0_1)) 2 true _ A4.out).mono ?_); rintro e w' ⟨rfl, ⟨nd, rfl⟩⟩; refine ⟨_, rfl, ?_⟩))
        go_meet
        case rel => exact ⟨_, (false), (by first | rfl | (simp; done) | (simp [*]; done)), H', ⟨by first | omega | exact Nat.le_refl _⟩, ⟨by (with_reducible repeat (first | refine blk_drewN ?_ _ | refine blk_drew ?_ | refine blk_alloc ?_ _)); exact BK569.out⟩, ⟨by repeat (first | (with_reducible first | exact HB.out | apply below_alloc | apply pw_below_drewN | apply below_drew1 | refine below_set ?_ GE569.out) | exact HB.out)⟩⟩
      · rw [if_neg c6] at H
        have c6b0 : (a0_4 == 0) = false := beq_eq_false_iff_ne.mpr c6
        have c6b1 : (a0_4 != 0) = true := bne_iff_ne.mpr c6
        (first | rw [c6b0] | (simp only [i64_w, i32_w]; rw [c6b0]) | skip)
        by_cases c8 : a0_4 = 49187
        · rw [if_pos c8] at H
          have c8b0 : (a0_4 == 49187) = true := beq_iff_eq.mpr c8
          have c8b1 : (a0_4 != 49187) = false := bne_eq_false_iff_eq.mpr c8
          clear c8
          have H' := Aside0.mk H
          clear H
          have hcz9_0 : w3.cell? ⟨gb569, 0, none⟩ = some (.bool a0_0) := (blk_cell BK569.out 0).trans rfl
          have hcz9_1 : w3.cell? ⟨gb569, 1, none⟩ = some (.int .i64 a0_1) := (blk_cell BK569.out 1).trans rfl
          have hcz9_2 : w3.cell? ⟨gb569, 2, none⟩ = some (.bool a0_2) := (blk_cell BK569.out 2).trans rfl
          have hcz9_3 : w3.cell? ⟨gb569, 3, none⟩ = some (.int .u32 a0_3) := (blk_cell BK569.out 3).trans rfl
          have hcz9_4 : w3.cell? ⟨gb569, 4, none⟩ = some (.int .i64 a0_4) := (blk_cell BK569.out 4).trans rfl
          have hcz9_5 : w3.cell? ⟨gb569, 5, none⟩ = some (.bool a0_5) := (blk_cell BK569.out 5).trans rfl
          have hcz9_6 : w3.cell? ⟨gb569, 6, none⟩ = some (.bool a0_6) := (blk_cell BK569.out 6).trans rfl
          have hcz9_7 : w3.cell? ⟨gb569, 7, none⟩ = some (.int .u32 a0_7) := (blk_cell BK569.out 7).trans rfl
          have hcz9_8 : w3.cell? ⟨gb569, 8, none⟩ = some (.bool a0_8) := (blk_cell BK569.out 8).trans rfl
          have hcz9_9 : w3.cell? ⟨gb569, 9, none⟩ = some (.bool a0_9) := (blk_cell BK569.out 9).trans rfl
          have hfz9_0 := blk_frozen BK569.out 0
          have hfz9_1 := blk_frozen BK569.out 1
          have hfz9_2 := blk_frozen BK569.out 2
          have hfz9_3 := blk_frozen BK569.out 3
          have hfz9_4 := blk_frozen BK569.out 4
          have hfz9_5 := blk_frozen BK569.out 5
          have hfz9_6 := blk_frozen BK569.out 6
          have hfz9_7 := blk_frozen BK569.out 7
          have hfz9_8 := blk_frozen BK569.out 8
          have hfz9_9 := blk_frozen BK569.out 9
          go_wp2_with (first | ((with_reducible refine gate_callee (f := 78) rfl ?_); refine goesL_ (some 7) rfl rfl Try.func78 (by kernel_rfl) rfl #[.int .u64 (IntKind.u64.wrap (a0_1)), .int .i64 2] rfl (by (try simp only [List.map_toArray, List.map_cons, List.map_nil]); first | done | rfl | (simp only [List.length_drop, List.length_take]; rfl)) ?_; (with_reducible refine (octet_Fits.calls (IntKind.u64.wrap (a0_1)) 2 true _ A4.out).mono ?_); rintro e w' ⟨rfl, ⟨nd, rfl⟩⟩; refine ⟨_, rfl, ?_⟩))
          go_meet
          case rel => exact ⟨_, (false), (by first | rfl | (simp; done) | (simp [*]; done)), H', ⟨by first | omega | exact Nat.le_refl _⟩, ⟨by (with_reducible repeat (first | refine blk_drewN ?_ _ | refine blk_drew ?_ | refine blk_alloc ?_ _)); exact BK569.out⟩, ⟨by repeat (first | (with_reducible first | exact HB.out | apply below_alloc | apply pw_below_drewN | apply below_drew1 | refine below_set ?_ GE569.out) | exact HB.out)⟩⟩
        · rw [if_neg c8] at H
          have c8b0 : (a0_4 == 49187) = false := beq_eq_false_iff_ne.mpr c8
          have c8b1 : (a0_4 != 49187) = true := bne_iff_ne.mpr c8
          have H' := Aside0.mk H
          clear H
          have hcz10_0 : w3.cell? ⟨gb569, 0, none⟩ = some (.bool a0_0) := (blk_cell BK569.out 0).trans rfl
          have hcz10_1 : w3.cell? ⟨gb569, 1, none⟩ = some (.int .i64 a0_1) := (blk_cell BK569.out 1).trans rfl
          have hcz10_2 : w3.cell? ⟨gb569, 2, none⟩ = some (.bool a0_2) := (blk_cell BK569.out 2).trans rfl
          have hcz10_3 : w3.cell? ⟨gb569, 3, none⟩ = some (.int .u32 a0_3) := (blk_cell BK569.out 3).trans rfl
          have hcz10_4 : w3.cell? ⟨gb569, 4, none⟩ = some (.int .i64 a0_4) := (blk_cell BK569.out 4).trans rfl
          have hcz10_5 : w3.cell? ⟨gb569, 5, none⟩ = some (.bool a0_5) := (blk_cell BK569.out 5).trans rfl
          have hcz10_6 : w3.cell? ⟨gb569, 6, none⟩ = some (.bool a0_6) := (blk_cell BK569.out 6).trans rfl
          have hcz10_7 : w3.cell? ⟨gb569, 7, none⟩ = some (.int .u32 a0_7) := (blk_cell BK569.out 7).trans rfl
          have hcz10_8 : w3.cell? ⟨gb569, 8, none⟩ = some (.bool a0_8) := (blk_cell BK569.out 8).trans rfl
          have hcz10_9 : w3.cell? ⟨gb569, 9, none⟩ = some (.bool a0_9) := (blk_cell BK569.out 9).trans rfl
          have hfz10_0 := blk_frozen BK569.out 0
          have hfz10_1 := blk_frozen BK569.out 1
          have hfz10_2 := blk_frozen BK569.out 2
          have hfz10_3 := blk_frozen BK569.out 3
          have hfz10_4 := blk_frozen BK569.out 4
          have hfz10_5 := blk_frozen BK569.out 5
          have hfz10_6 := blk_frozen BK569.out 6
          have hfz10_7 := blk_frozen BK569.out 7
          have hfz10_8 := blk_frozen BK569.out 8
          have hfz10_9 := blk_frozen BK569.out 9
          go_wp2_with (first | ((with_reducible refine gate_callee (f := 78) rfl ?_); refine goesL_ (some 7) rfl rfl Try.func78 (by kernel_rfl) rfl #[.int .u64 (IntKind.u64.wrap (a0_1)), .int .i64 2] rfl (by (try simp only [List.map_toArray, List.map_cons, List.map_nil]); first | done | rfl | (simp only [List.length_drop, List.length_take]; rfl)) ?_; (with_reducible refine (octet_Fits.calls (IntKind.u64.wrap (a0_1)) 2 true _ A4.out).mono ?_); rintro e w' ⟨rfl, ⟨nd, rfl⟩⟩; refine ⟨_, rfl, ?_⟩))
          go_meet
          case rel => exact ⟨_, ((a0_4 != 49699)), (by first | rfl | (simp; done) | (simp [*]; done)), H', ⟨by first | omega | exact Nat.le_refl _⟩, ⟨by (with_reducible repeat (first | refine blk_drewN ?_ _ | refine blk_drew ?_ | refine blk_alloc ?_ _)); exact BK569.out⟩, ⟨by repeat (first | (with_reducible first | exact HB.out | apply below_alloc | apply pw_below_drewN | apply below_drew1 | refine below_set ?_ GE569.out) | exact HB.out)⟩⟩
    · replace c5 := Bool.eq_false_iff.mpr c5
      subst c5
      have H1 : (terms_may.j0 k true a0_0 a0_1 a0_2 a0_3 a0_4 a0_5 a0_6 a0_7 a0_8 a0_9) = some r := by rw [if_neg (show ¬ (false = true) by decide)] at H; exact H
      clear H
      have H := H1
      clear H1
      have H' := Aside0.mk H
      clear H
      have hcz11_0 : w3.cell? ⟨gb569, 0, none⟩ = some (.bool a0_0) := (blk_cell BK569.out 0).trans rfl
      have hcz11_1 : w3.cell? ⟨gb569, 1, none⟩ = some (.int .i64 a0_1) := (blk_cell BK569.out 1).trans rfl
      have hcz11_2 : w3.cell? ⟨gb569, 2, none⟩ = some (.bool a0_2) := (blk_cell BK569.out 2).trans rfl
      have hcz11_3 : w3.cell? ⟨gb569, 3, none⟩ = some (.int .u32 a0_3) := (blk_cell BK569.out 3).trans rfl
      have hcz11_4 : w3.cell? ⟨gb569, 4, none⟩ = some (.int .i64 a0_4) := (blk_cell BK569.out 4).trans rfl
      have hcz11_5 : w3.cell? ⟨gb569, 5, none⟩ = some (.bool a0_5) := (blk_cell BK569.out 5).trans rfl
      have hcz11_6 : w3.cell? ⟨gb569, 6, none⟩ = some (.bool a0_6) := (blk_cell BK569.out 6).trans rfl
      have hcz11_7 : w3.cell? ⟨gb569, 7, none⟩ = some (.int .u32 a0_7) := (blk_cell BK569.out 7).trans rfl
      have hcz11_8 : w3.cell? ⟨gb569, 8, none⟩ = some (.bool a0_8) := (blk_cell BK569.out 8).trans rfl
      have hcz11_9 : w3.cell? ⟨gb569, 9, none⟩ = some (.bool a0_9) := (blk_cell BK569.out 9).trans rfl
      have hfz11_0 := blk_frozen BK569.out 0
      have hfz11_1 := blk_frozen BK569.out 1
      have hfz11_2 := blk_frozen BK569.out 2
      have hfz11_3 := blk_frozen BK569.out 3
      have hfz11_4 := blk_frozen BK569.out 4
      have hfz11_5 := blk_frozen BK569.out 5
      have hfz11_6 := blk_frozen BK569.out 6
      have hfz11_7 := blk_frozen BK569.out 7
      have hfz11_8 := blk_frozen BK569.out 8
      have hfz11_9 := blk_frozen BK569.out 9
      go_wp2_with (first | ((with_reducible refine gate_callee (f := 78) rfl ?_); refine goesL_ (some 7) rfl rfl Try.func78 (by kernel_rfl) rfl #[.int .u64 (IntKind.u64.wrap (a0_1)), .int .i64 2] rfl (by (try simp only [List.map_toArray, List.map_cons, List.map_nil]); first | done | rfl | (simp only [List.length_drop, List.length_take]; rfl)) ?_; (with_reducible refine (octet_Fits.calls (IntKind.u64.wrap (a0_1)) 2 false _ A4.out).mono ?_); rintro e w' ⟨rfl, ⟨nd, rfl⟩⟩; refine ⟨_, rfl, ?_⟩))
      go_meet
      case rel => exact ⟨_, (true), (by first | rfl | (simp; done) | (simp [*]; done)), H', ⟨by first | omega | exact Nat.le_refl _⟩, ⟨by (with_reducible repeat (first | refine blk_drewN ?_ _ | refine blk_drew ?_ | refine blk_alloc ?_ _)); exact BK569.out⟩, ⟨by repeat (first | (with_reducible first | exact HB.out | apply below_alloc | apply pw_below_drewN | apply below_drew1 | refine below_set ?_ GE569.out) | exact HB.out)⟩⟩
  case rest =>
    clear HC2
    try clear p2
    try clear c5
    try clear c6
    try clear c6b0
    try clear c6b1
    try clear c7
    try clear c8
    try clear c8b0
    try clear c8b1
    try clear hcz10_0
    try clear hcz10_1
    try clear hcz10_2
    try clear hcz10_3
    try clear hcz10_4
    try clear hcz10_5
    try clear hcz10_6
    try clear hcz10_7
    try clear hcz10_8
    try clear hcz10_9
    try clear hcz11_0
    try clear hcz11_1
    try clear hcz11_2
    try clear hcz11_3
    try clear hcz11_4
    try clear hcz11_5
    try clear hcz11_6
    try clear hcz11_7
    try clear hcz11_8
    try clear hcz11_9
    try clear hcz7_0
    try clear hcz7_1
    try clear hcz7_2
    try clear hcz7_3
    try clear hcz7_4
    try clear hcz7_5
    try clear hcz7_6
    try clear hcz7_7
    try clear hcz7_8
    try clear hcz7_9
    try clear hcz9_0
    try clear hcz9_1
    try clear hcz9_2
    try clear hcz9_3
    try clear hcz9_4
    try clear hcz9_5
    try clear hcz9_6
    try clear hcz9_7
    try clear hcz9_8
    try clear hcz9_9
    try clear hfz10_0
    try clear hfz10_1
    try clear hfz10_2
    try clear hfz10_3
    try clear hfz10_4
    try clear hfz10_5
    try clear hfz10_6
    try clear hfz10_7
    try clear hfz10_8
    try clear hfz10_9
    try clear hfz11_0
    try clear hfz11_1
    try clear hfz11_2
    try clear hfz11_3
    try clear hfz11_4
    try clear hfz11_5
    try clear hfz11_6
    try clear hfz11_7
    try clear hfz11_8
    try clear hfz11_9
    try clear hfz7_0
    try clear hfz7_1
    try clear hfz7_2
    try clear hfz7_3
    try clear hfz7_4
    try clear hfz7_5
    try clear hfz7_6
    try clear hfz7_7
    try clear hfz7_8
    try clear hfz7_9
    try clear hfz9_0
    try clear hfz9_1
    try clear hfz9_2
    try clear hfz9_3
    try clear hfz9_4
    try clear hfz9_5
    try clear hfz9_6
    try clear hfz9_7
    try clear hfz9_8
    try clear hfz9_9
    obtain ⟨kq, x3_1, rfl, HA, HJ1, BK569, HB⟩ := hcut
    cases kq with
    | zero => exact absurd HA.out (by simp [terms_may.j0])
    | succ kj1 =>
      have H := HA.out
      clear HA
      simp only [terms_may.j0] at H
      by_cases c12 : x3_1 = true
      · subst c12
        have H1 : (some false) = some r := by rw [if_pos rfl] at H; exact H
        clear H
        have H := H1
        clear H1
        obtain rfl := Option.some.inj H
        go_wp2
        go_ret
        exact ⟨by first | rfl | (simp [errW_none, errW_some] <;> rfl) | (simp [*, errW_none, errW_some] <;> rfl), by repeat (first | (with_reducible first | exact HB.out | apply below_alloc | apply pw_below_drewN | apply below_drew1 | refine below_set ?_ GE569.out) | exact HB.out)⟩
      · replace c12 := Bool.eq_false_iff.mpr c12
        subst c12
        have H1 : (if a0_0 = true then (if a0_2 = true then (some (a0_6 == (a0_7 != 0))) else (if a0_3 = 0 then (some (a0_6 == (a0_7 != 0))) else (some false))) else (if a0_1 = 0 then (if a0_2 = true then (some (a0_6 == (a0_7 != 0))) else (if a0_3 = 0 then (some (a0_6 == (a0_7 != 0))) else (some false))) else (some false))) = some r := by rw [if_neg (show ¬ (false = true) by decide)] at H; exact H
        clear H
        have H := H1
        clear H1
        by_cases c13 : a0_0 = true
        · subst c13
          have H1 : (if a0_2 = true then (some (a0_6 == (a0_7 != 0))) else (if a0_3 = 0 then (some (a0_6 == (a0_7 != 0))) else (some false))) = some r := by rw [if_pos rfl] at H; exact H
          clear H
          have H := H1
          clear H1
          by_cases c14 : a0_2 = true
          · subst c14
            have H1 : (some (a0_6 == (a0_7 != 0))) = some r := by rw [if_pos rfl] at H; exact H
            clear H
            have H := H1
            clear H1
            obtain rfl := Option.some.inj H
            have hcz15_0 : wc.cell? ⟨gb569, 0, none⟩ = some (.bool true) := (blk_cell BK569.out 0).trans rfl
            have hcz15_1 : wc.cell? ⟨gb569, 1, none⟩ = some (.int .i64 a0_1) := (blk_cell BK569.out 1).trans rfl
            have hcz15_2 : wc.cell? ⟨gb569, 2, none⟩ = some (.bool true) := (blk_cell BK569.out 2).trans rfl
            have hcz15_3 : wc.cell? ⟨gb569, 3, none⟩ = some (.int .u32 a0_3) := (blk_cell BK569.out 3).trans rfl
            have hcz15_4 : wc.cell? ⟨gb569, 4, none⟩ = some (.int .i64 a0_4) := (blk_cell BK569.out 4).trans rfl
            have hcz15_5 : wc.cell? ⟨gb569, 5, none⟩ = some (.bool a0_5) := (blk_cell BK569.out 5).trans rfl
            have hcz15_6 : wc.cell? ⟨gb569, 6, none⟩ = some (.bool a0_6) := (blk_cell BK569.out 6).trans rfl
            have hcz15_7 : wc.cell? ⟨gb569, 7, none⟩ = some (.int .u32 a0_7) := (blk_cell BK569.out 7).trans rfl
            have hcz15_8 : wc.cell? ⟨gb569, 8, none⟩ = some (.bool a0_8) := (blk_cell BK569.out 8).trans rfl
            have hcz15_9 : wc.cell? ⟨gb569, 9, none⟩ = some (.bool a0_9) := (blk_cell BK569.out 9).trans rfl
            have hfz15_0 := blk_frozen BK569.out 0
            have hfz15_1 := blk_frozen BK569.out 1
            have hfz15_2 := blk_frozen BK569.out 2
            have hfz15_3 := blk_frozen BK569.out 3
            have hfz15_4 := blk_frozen BK569.out 4
            have hfz15_5 := blk_frozen BK569.out 5
            have hfz15_6 := blk_frozen BK569.out 6
            have hfz15_7 := blk_frozen BK569.out 7
            have hfz15_8 := blk_frozen BK569.out 8
            have hfz15_9 := blk_frozen BK569.out 9
            go_wp2
            go_ret
            exact ⟨by first | rfl | (simp [errW_none, errW_some] <;> rfl) | (simp [*, errW_none, errW_some] <;> rfl), by repeat (first | (with_reducible first | exact HB.out | apply below_alloc | apply pw_below_drewN | apply below_drew1 | refine below_set ?_ GE569.out) | exact HB.out)⟩
          · replace c14 := Bool.eq_false_iff.mpr c14
            subst c14
            have H1 : (if a0_3 = 0 then (some (a0_6 == (a0_7 != 0))) else (some false)) = some r := by rw [if_neg (show ¬ (false = true) by decide)] at H; exact H
            clear H
            have H := H1
            clear H1
            by_cases c16 : a0_3 = 0
            · rw [if_pos c16] at H
              have c16b0 : (a0_3 == 0) = true := beq_iff_eq.mpr c16
              have c16b1 : (a0_3 != 0) = false := bne_eq_false_iff_eq.mpr c16
              clear c16
              obtain rfl := Option.some.inj H
              have hcz17_0 : wc.cell? ⟨gb569, 0, none⟩ = some (.bool true) := (blk_cell BK569.out 0).trans rfl
              have hcz17_1 : wc.cell? ⟨gb569, 1, none⟩ = some (.int .i64 a0_1) := (blk_cell BK569.out 1).trans rfl
              have hcz17_2 : wc.cell? ⟨gb569, 2, none⟩ = some (.bool false) := (blk_cell BK569.out 2).trans rfl
              have hcz17_3 : wc.cell? ⟨gb569, 3, none⟩ = some (.int .u32 a0_3) := (blk_cell BK569.out 3).trans rfl
              have hcz17_4 : wc.cell? ⟨gb569, 4, none⟩ = some (.int .i64 a0_4) := (blk_cell BK569.out 4).trans rfl
              have hcz17_5 : wc.cell? ⟨gb569, 5, none⟩ = some (.bool a0_5) := (blk_cell BK569.out 5).trans rfl
              have hcz17_6 : wc.cell? ⟨gb569, 6, none⟩ = some (.bool a0_6) := (blk_cell BK569.out 6).trans rfl
              have hcz17_7 : wc.cell? ⟨gb569, 7, none⟩ = some (.int .u32 a0_7) := (blk_cell BK569.out 7).trans rfl
              have hcz17_8 : wc.cell? ⟨gb569, 8, none⟩ = some (.bool a0_8) := (blk_cell BK569.out 8).trans rfl
              have hcz17_9 : wc.cell? ⟨gb569, 9, none⟩ = some (.bool a0_9) := (blk_cell BK569.out 9).trans rfl
              have hfz17_0 := blk_frozen BK569.out 0
              have hfz17_1 := blk_frozen BK569.out 1
              have hfz17_2 := blk_frozen BK569.out 2
              have hfz17_3 := blk_frozen BK569.out 3
              have hfz17_4 := blk_frozen BK569.out 4
              have hfz17_5 := blk_frozen BK569.out 5
              have hfz17_6 := blk_frozen BK569.out 6
              have hfz17_7 := blk_frozen BK569.out 7
              have hfz17_8 := blk_frozen BK569.out 8
              have hfz17_9 := blk_frozen BK569.out 9
              go_wp2
              go_ret
              exact ⟨by first | rfl | (simp [errW_none, errW_some] <;> rfl) | (simp [*, errW_none, errW_some] <;> rfl), by repeat (first | (with_reducible first | exact HB.out | apply below_alloc | apply pw_below_drewN | apply below_drew1 | refine below_set ?_ GE569.out) | exact HB.out)⟩
            · rw [if_neg c16] at H
              have c16b0 : (a0_3 == 0) = false := beq_eq_false_iff_ne.mpr c16
              have c16b1 : (a0_3 != 0) = true := bne_iff_ne.mpr c16
              obtain rfl := Option.some.inj H
              have hcz18_0 : wc.cell? ⟨gb569, 0, none⟩ = some (.bool true) := (blk_cell BK569.out 0).trans rfl
              have hcz18_1 : wc.cell? ⟨gb569, 1, none⟩ = some (.int .i64 a0_1) := (blk_cell BK569.out 1).trans rfl
              have hcz18_2 : wc.cell? ⟨gb569, 2, none⟩ = some (.bool false) := (blk_cell BK569.out 2).trans rfl
              have hcz18_3 : wc.cell? ⟨gb569, 3, none⟩ = some (.int .u32 a0_3) := (blk_cell BK569.out 3).trans rfl
              have hcz18_4 : wc.cell? ⟨gb569, 4, none⟩ = some (.int .i64 a0_4) := (blk_cell BK569.out 4).trans rfl
              have hcz18_5 : wc.cell? ⟨gb569, 5, none⟩ = some (.bool a0_5) := (blk_cell BK569.out 5).trans rfl
              have hcz18_6 : wc.cell? ⟨gb569, 6, none⟩ = some (.bool a0_6) := (blk_cell BK569.out 6).trans rfl
              have hcz18_7 : wc.cell? ⟨gb569, 7, none⟩ = some (.int .u32 a0_7) := (blk_cell BK569.out 7).trans rfl
              have hcz18_8 : wc.cell? ⟨gb569, 8, none⟩ = some (.bool a0_8) := (blk_cell BK569.out 8).trans rfl
              have hcz18_9 : wc.cell? ⟨gb569, 9, none⟩ = some (.bool a0_9) := (blk_cell BK569.out 9).trans rfl
              have hfz18_0 := blk_frozen BK569.out 0
              have hfz18_1 := blk_frozen BK569.out 1
              have hfz18_2 := blk_frozen BK569.out 2
              have hfz18_3 := blk_frozen BK569.out 3
              have hfz18_4 := blk_frozen BK569.out 4
              have hfz18_5 := blk_frozen BK569.out 5
              have hfz18_6 := blk_frozen BK569.out 6
              have hfz18_7 := blk_frozen BK569.out 7
              have hfz18_8 := blk_frozen BK569.out 8
              have hfz18_9 := blk_frozen BK569.out 9
              go_wp2
              go_ret
              exact ⟨by first | rfl | (simp [errW_none, errW_some] <;> rfl) | (simp [*, errW_none, errW_some] <;> rfl), by repeat (first | (with_reducible first | exact HB.out | apply below_alloc | apply pw_below_drewN | apply below_drew1 | refine below_set ?_ GE569.out) | exact HB.out)⟩
        · replace c13 := Bool.eq_false_iff.mpr c13
          subst c13
          have H1 : (if a0_1 = 0 then (if a0_2 = true then (some (a0_6 == (a0_7 != 0))) else (if a0_3 = 0 then (some (a0_6 == (a0_7 != 0))) else (some false))) else (some false)) = some r := by rw [if_neg (show ¬ (false = true) by decide)] at H; exact H
          clear H
          have H := H1
          clear H1
          by_cases c19 : a0_1 = 0
          · rw [if_pos c19] at H
            have c19b0 : (a0_1 == 0) = true := beq_iff_eq.mpr c19
            have c19b1 : (a0_1 != 0) = false := bne_eq_false_iff_eq.mpr c19
            clear c19
            by_cases c20 : a0_2 = true
            · subst c20
              have H1 : (some (a0_6 == (a0_7 != 0))) = some r := by rw [if_pos rfl] at H; exact H
              clear H
              have H := H1
              clear H1
              obtain rfl := Option.some.inj H
              have hcz21_0 : wc.cell? ⟨gb569, 0, none⟩ = some (.bool false) := (blk_cell BK569.out 0).trans rfl
              have hcz21_1 : wc.cell? ⟨gb569, 1, none⟩ = some (.int .i64 a0_1) := (blk_cell BK569.out 1).trans rfl
              have hcz21_2 : wc.cell? ⟨gb569, 2, none⟩ = some (.bool true) := (blk_cell BK569.out 2).trans rfl
              have hcz21_3 : wc.cell? ⟨gb569, 3, none⟩ = some (.int .u32 a0_3) := (blk_cell BK569.out 3).trans rfl
              have hcz21_4 : wc.cell? ⟨gb569, 4, none⟩ = some (.int .i64 a0_4) := (blk_cell BK569.out 4).trans rfl
              have hcz21_5 : wc.cell? ⟨gb569, 5, none⟩ = some (.bool a0_5) := (blk_cell BK569.out 5).trans rfl
              have hcz21_6 : wc.cell? ⟨gb569, 6, none⟩ = some (.bool a0_6) := (blk_cell BK569.out 6).trans rfl
              have hcz21_7 : wc.cell? ⟨gb569, 7, none⟩ = some (.int .u32 a0_7) := (blk_cell BK569.out 7).trans rfl
              have hcz21_8 : wc.cell? ⟨gb569, 8, none⟩ = some (.bool a0_8) := (blk_cell BK569.out 8).trans rfl
              have hcz21_9 : wc.cell? ⟨gb569, 9, none⟩ = some (.bool a0_9) := (blk_cell BK569.out 9).trans rfl
              have hfz21_0 := blk_frozen BK569.out 0
              have hfz21_1 := blk_frozen BK569.out 1
              have hfz21_2 := blk_frozen BK569.out 2
              have hfz21_3 := blk_frozen BK569.out 3
              have hfz21_4 := blk_frozen BK569.out 4
              have hfz21_5 := blk_frozen BK569.out 5
              have hfz21_6 := blk_frozen BK569.out 6
              have hfz21_7 := blk_frozen BK569.out 7
              have hfz21_8 := blk_frozen BK569.out 8
              have hfz21_9 := blk_frozen BK569.out 9
              go_wp2
              go_ret
              exact ⟨by first | rfl | (simp [errW_none, errW_some] <;> rfl) | (simp [*, errW_none, errW_some] <;> rfl), by repeat (first | (with_reducible first | exact HB.out | apply below_alloc | apply pw_below_drewN | apply below_drew1 | refine below_set ?_ GE569.out) | exact HB.out)⟩
            · replace c20 := Bool.eq_false_iff.mpr c20
              subst c20
              have H1 : (if a0_3 = 0 then (some (a0_6 == (a0_7 != 0))) else (some false)) = some r := by rw [if_neg (show ¬ (false = true) by decide)] at H; exact H
              clear H
              have H := H1
              clear H1
              by_cases c22 : a0_3 = 0
              · rw [if_pos c22] at H
                have c22b0 : (a0_3 == 0) = true := beq_iff_eq.mpr c22
                have c22b1 : (a0_3 != 0) = false := bne_eq_false_iff_eq.mpr c22
                clear c22
                obtain rfl := Option.some.inj H
                have hcz23_0 : wc.cell? ⟨gb569, 0, none⟩ = some (.bool false) := (blk_cell BK569.out 0).trans rfl
                have hcz23_1 : wc.cell? ⟨gb569, 1, none⟩ = some (.int .i64 a0_1) := (blk_cell BK569.out 1).trans rfl
                have hcz23_2 : wc.cell? ⟨gb569, 2, none⟩ = some (.bool false) := (blk_cell BK569.out 2).trans rfl
                have hcz23_3 : wc.cell? ⟨gb569, 3, none⟩ = some (.int .u32 a0_3) := (blk_cell BK569.out 3).trans rfl
                have hcz23_4 : wc.cell? ⟨gb569, 4, none⟩ = some (.int .i64 a0_4) := (blk_cell BK569.out 4).trans rfl
                have hcz23_5 : wc.cell? ⟨gb569, 5, none⟩ = some (.bool a0_5) := (blk_cell BK569.out 5).trans rfl
                have hcz23_6 : wc.cell? ⟨gb569, 6, none⟩ = some (.bool a0_6) := (blk_cell BK569.out 6).trans rfl
                have hcz23_7 : wc.cell? ⟨gb569, 7, none⟩ = some (.int .u32 a0_7) := (blk_cell BK569.out 7).trans rfl
                have hcz23_8 : wc.cell? ⟨gb569, 8, none⟩ = some (.bool a0_8) := (blk_cell BK569.out 8).trans rfl
                have hcz23_9 : wc.cell? ⟨gb569, 9, none⟩ = some (.bool a0_9) := (blk_cell BK569.out 9).trans rfl
                have hfz23_0 := blk_frozen BK569.out 0
                have hfz23_1 := blk_frozen BK569.out 1
                have hfz23_2 := blk_frozen BK569.out 2
                have hfz23_3 := blk_frozen BK569.out 3
                have hfz23_4 := blk_frozen BK569.out 4
                have hfz23_5 := blk_frozen BK569.out 5
                have hfz23_6 := blk_frozen BK569.out 6
                have hfz23_7 := blk_frozen BK569.out 7
                have hfz23_8 := blk_frozen BK569.out 8
                have hfz23_9 := blk_frozen BK569.out 9
                go_wp2
                go_ret
                exact ⟨by first | rfl | (simp [errW_none, errW_some] <;> rfl) | (simp [*, errW_none, errW_some] <;> rfl), by repeat (first | (with_reducible first | exact HB.out | apply below_alloc | apply pw_below_drewN | apply below_drew1 | refine below_set ?_ GE569.out) | exact HB.out)⟩
              · rw [if_neg c22] at H
                have c22b0 : (a0_3 == 0) = false := beq_eq_false_iff_ne.mpr c22
                have c22b1 : (a0_3 != 0) = true := bne_iff_ne.mpr c22
                obtain rfl := Option.some.inj H
                have hcz24_0 : wc.cell? ⟨gb569, 0, none⟩ = some (.bool false) := (blk_cell BK569.out 0).trans rfl
                have hcz24_1 : wc.cell? ⟨gb569, 1, none⟩ = some (.int .i64 a0_1) := (blk_cell BK569.out 1).trans rfl
                have hcz24_2 : wc.cell? ⟨gb569, 2, none⟩ = some (.bool false) := (blk_cell BK569.out 2).trans rfl
                have hcz24_3 : wc.cell? ⟨gb569, 3, none⟩ = some (.int .u32 a0_3) := (blk_cell BK569.out 3).trans rfl
                have hcz24_4 : wc.cell? ⟨gb569, 4, none⟩ = some (.int .i64 a0_4) := (blk_cell BK569.out 4).trans rfl
                have hcz24_5 : wc.cell? ⟨gb569, 5, none⟩ = some (.bool a0_5) := (blk_cell BK569.out 5).trans rfl
                have hcz24_6 : wc.cell? ⟨gb569, 6, none⟩ = some (.bool a0_6) := (blk_cell BK569.out 6).trans rfl
                have hcz24_7 : wc.cell? ⟨gb569, 7, none⟩ = some (.int .u32 a0_7) := (blk_cell BK569.out 7).trans rfl
                have hcz24_8 : wc.cell? ⟨gb569, 8, none⟩ = some (.bool a0_8) := (blk_cell BK569.out 8).trans rfl
                have hcz24_9 : wc.cell? ⟨gb569, 9, none⟩ = some (.bool a0_9) := (blk_cell BK569.out 9).trans rfl
                have hfz24_0 := blk_frozen BK569.out 0
                have hfz24_1 := blk_frozen BK569.out 1
                have hfz24_2 := blk_frozen BK569.out 2
                have hfz24_3 := blk_frozen BK569.out 3
                have hfz24_4 := blk_frozen BK569.out 4
                have hfz24_5 := blk_frozen BK569.out 5
                have hfz24_6 := blk_frozen BK569.out 6
                have hfz24_7 := blk_frozen BK569.out 7
                have hfz24_8 := blk_frozen BK569.out 8
                have hfz24_9 := blk_frozen BK569.out 9
                go_wp2
                go_ret
                exact ⟨by first | rfl | (simp [errW_none, errW_some] <;> rfl) | (simp [*, errW_none, errW_some] <;> rfl), by repeat (first | (with_reducible first | exact HB.out | apply below_alloc | apply pw_below_drewN | apply below_drew1 | refine below_set ?_ GE569.out) | exact HB.out)⟩
          · rw [if_neg c19] at H
            have c19b0 : (a0_1 == 0) = false := beq_eq_false_iff_ne.mpr c19
            have c19b1 : (a0_1 != 0) = true := bne_iff_ne.mpr c19
            obtain rfl := Option.some.inj H
            have hcz25_0 : wc.cell? ⟨gb569, 0, none⟩ = some (.bool false) := (blk_cell BK569.out 0).trans rfl
            have hcz25_1 : wc.cell? ⟨gb569, 1, none⟩ = some (.int .i64 a0_1) := (blk_cell BK569.out 1).trans rfl
            have hcz25_2 : wc.cell? ⟨gb569, 2, none⟩ = some (.bool a0_2) := (blk_cell BK569.out 2).trans rfl
            have hcz25_3 : wc.cell? ⟨gb569, 3, none⟩ = some (.int .u32 a0_3) := (blk_cell BK569.out 3).trans rfl
            have hcz25_4 : wc.cell? ⟨gb569, 4, none⟩ = some (.int .i64 a0_4) := (blk_cell BK569.out 4).trans rfl
            have hcz25_5 : wc.cell? ⟨gb569, 5, none⟩ = some (.bool a0_5) := (blk_cell BK569.out 5).trans rfl
            have hcz25_6 : wc.cell? ⟨gb569, 6, none⟩ = some (.bool a0_6) := (blk_cell BK569.out 6).trans rfl
            have hcz25_7 : wc.cell? ⟨gb569, 7, none⟩ = some (.int .u32 a0_7) := (blk_cell BK569.out 7).trans rfl
            have hcz25_8 : wc.cell? ⟨gb569, 8, none⟩ = some (.bool a0_8) := (blk_cell BK569.out 8).trans rfl
            have hcz25_9 : wc.cell? ⟨gb569, 9, none⟩ = some (.bool a0_9) := (blk_cell BK569.out 9).trans rfl
            have hfz25_0 := blk_frozen BK569.out 0
            have hfz25_1 := blk_frozen BK569.out 1
            have hfz25_2 := blk_frozen BK569.out 2
            have hfz25_3 := blk_frozen BK569.out 3
            have hfz25_4 := blk_frozen BK569.out 4
            have hfz25_5 := blk_frozen BK569.out 5
            have hfz25_6 := blk_frozen BK569.out 6
            have hfz25_7 := blk_frozen BK569.out 7
            have hfz25_8 := blk_frozen BK569.out 8
            have hfz25_9 := blk_frozen BK569.out 9
            go_wp2
            go_ret
            exact ⟨by first | rfl | (simp [errW_none, errW_some] <;> rfl) | (simp [*, errW_none, errW_some] <;> rfl), by repeat (first | (with_reducible first | exact HB.out | apply below_alloc | apply pw_below_drewN | apply below_drew1 | refine below_set ?_ GE569.out) | exact HB.out)⟩

end Go.Proofs.Ytnjimecjpnjojaa.Print
