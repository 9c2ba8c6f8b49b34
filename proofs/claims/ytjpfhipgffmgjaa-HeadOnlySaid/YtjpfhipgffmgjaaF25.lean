-- laid by this session's own program (wip/mkprint.sh) for this claim
import Derived.Test.Ytjpfhipgffmgjaa0
import Derived.Test.YtjpfhipgffmgjaaF23
import Derived.Test.YtjpfhipgffmgjaaF33
namespace Go.Proofs.Ytjpfhipgffmgjaa.Print
open Go.RowKit Go.Proofs.YtjpfhipgffmgjaaW.PrintWords Go.Proofs.YtjpfhipgffmgjaaW.PrintLast Go.Proofs.YtjpfhipgffmgjaaW.PrintMore
attribute [local go_sem] max2_int min2_int max_two min_two max_three min_three max_four min_four   -- for this text's walks alone
set_option linter.unusedVariables false
set_option linter.unusedSimpArgs false

/-! ### head_Read: function 25 -/
def head_Read.j0 : Nat → Int → List Int → Bool → Option (Int × Int × Int)
  | 0, _, _, _ => none
  | k + 1, x4, x6, x25 => if x25 = true then (if 0 < (x6.length : Int) then (some (wrap64 (rd x6 0), wrap64 (x4 + 1), 0)) else (none)) else (if 0 < (x6.length : Int) then (if (Go.bits .and .u8 (rd x6 0) 1) = 1 then (some (0, 0, 3)) else (if (x6.length : Int) = 1 then (some (0, 0, 2)) else (if 1 < (x6.length : Int) then ((head_May.f (Go.bits .or .i64 (wrap64 ((wrap64 (rd x6 0)) * 256)) (wrap64 (rd x6 1)))).bind fun t335 => (if t335 = true then (some (Go.bits .or .i64 (wrap64 ((wrap64 (rd x6 0)) * 256)) (wrap64 (rd x6 1)), wrap64 (x4 + 2), 0)) else (some (0, 0, 3)))) else (none)))) else (none))
def head_Read.f (k : Nat) (l0 : List Int) : Option (Int × Int × Int) := (head_begin.f l0).bind fun bt325 => (if bt325.2 = 0 then (if 0 ≤ bt325.1 then (if bt325.1 ≤ (l0.length : Int) then (if ((l0.drop (bt325.1 : Int).toNat).length : Int) = 0 then (some (0, 0, 2)) else (if 0 < ((l0.drop (bt325.1 : Int).toNat).length : Int) then (if (Go.bits .and .u8 (rd (l0.drop (bt325.1 : Int).toNat) 0) 1) = 1 then ((head_May.f (wrap64 (rd (l0.drop (bt325.1 : Int).toNat) 0))).bind fun t330 => (head_Read.j0 k bt325.1 (l0.drop (bt325.1 : Int).toNat) t330)) else (head_Read.j0 k bt325.1 (l0.drop (bt325.1 : Int).toNat) false)) else (none))) else (none)) else (none)) else (some (0, 0, bt325.2)))
theorem head_Read.mono_l : ∀ k, (∀ y0 y1 y2, LeO (head_Read.j0 k y0 y1 y2) (head_Read.j0 (k + 1) y0 y1 y2))
  | 0 => fun _ _ _ r h => by simp [head_Read.j0] at h
  | k + 1 => by
    have ih0 := head_Read.mono_l k
    · intro y0 y1 y2
      unfold head_Read.j0
      repeat' first
      | (with_reducible exact ih0 _ _ _)
      | (with_reducible exact LeO.refl _)
      | (with_reducible exact LeO.none _)
      | (with_reducible refine LeO.ite ?_ ?_)
      | (with_reducible refine LeO.bind ?_ (fun _ => ?_))
      | exact ih0 _ _ _
      | exact LeO.none _
      | refine LeO.ite ?_ ?_
      | refine LeO.bind ?_ (fun _ => ?_)
theorem head_Read.mono : ∀ a0 k, LeO (head_Read.f k a0) (head_Read.f (k + 1) a0) := by
  intro a0 k
  have ih0 := head_Read.mono_l k
  unfold head_Read.f
  repeat' first
      | (with_reducible exact ih0 _ _ _)
      | (with_reducible exact LeO.refl _)
      | (with_reducible exact LeO.none _)
      | (with_reducible refine LeO.ite ?_ ?_)
      | (with_reducible refine LeO.bind ?_ (fun _ => ?_))
      | exact ih0 _ _ _
      | exact LeO.none _
      | refine LeO.ite ?_ ?_
      | refine LeO.bind ?_ (fun _ => ?_)
set_option maxHeartbeats 8000000 in
set_option maxRecDepth 100000 in
theorem head_Read.calls (k : Nat) (A0 : Option Addr) (c0 : Nat) (l0 : List Int) (r1 : Int) (r2 : Int) (r3 : Int) (w : World) (hr0 : Kd.C (Kd.int .u8) w A0 l0.length l0) (hc0 : l0.length ≤ c0) (h : head_Read.f k l0 = some (r1, r2, r3)) :
    Calls Try.prog 25 #[.slice A0 l0.length c0] w fun e w' => e = .returned (.tuple #[.agg #[.int .i64 r1, .int .i64 r2], .int .i64 r3]) ∧ Below w.heap.size w w' := by
  have hu43 := Try.underlying43
  have HR0 := Aside0.mk hr0
  have HC0 := Aside0.mk hc0
  clear hr0 hc0
  have HB := Aside0.mk (Below.refl w.heap.size w)
  have H : ((head_begin.f l0).bind fun bt325 => (if bt325.2 = 0 then (if 0 ≤ bt325.1 then (if bt325.1 ≤ (l0.length : Int) then (if ((l0.drop (bt325.1 : Int).toNat).length : Int) = 0 then (some (0, 0, 2)) else (if 0 < ((l0.drop (bt325.1 : Int).toNat).length : Int) then (if (Go.bits .and .u8 (rd (l0.drop (bt325.1 : Int).toNat) 0) 1) = 1 then ((head_May.f (wrap64 (rd (l0.drop (bt325.1 : Int).toNat) 0))).bind fun t330 => (head_Read.j0 k bt325.1 (l0.drop (bt325.1 : Int).toNat) t330)) else (head_Read.j0 k bt325.1 (l0.drop (bt325.1 : Int).toNat) false)) else (none))) else (none)) else (none)) else (some (0, 0, bt325.2)))) = some (r1, r2, r3) := h
  clear h
  replace H := Option.bind_eq_some_iff.mp H
  obtain ⟨⟨t325, t326⟩, A20, H⟩ := H
  replace H : (if t326 = 0 then (if 0 ≤ t325 then (if t325 ≤ (l0.length : Int) then (if ((l0.drop (t325 : Int).toNat).length : Int) = 0 then (some (0, 0, 2)) else (if 0 < ((l0.drop (t325 : Int).toNat).length : Int) then (if (Go.bits .and .u8 (rd (l0.drop (t325 : Int).toNat) 0) 1) = 1 then ((head_May.f (wrap64 (rd (l0.drop (t325 : Int).toNat) 0))).bind fun t330 => (head_Read.j0 k t325 (l0.drop (t325 : Int).toNat) t330)) else (head_Read.j0 k t325 (l0.drop (t325 : Int).toNat) false)) else (none))) else (none)) else (none)) else (some (0, 0, t326))) = some (r1, r2, r3) := H
  have A2 := Aside0.mk A20
  clear A20
  by_cases c3 : t326 = 0
  · rw [if_pos c3] at H
    have c3b0 : (t326 == 0) = true := beq_iff_eq.mpr c3
    have c3b1 : (t326 != 0) = false := bne_eq_false_iff_eq.mpr c3
    clear c3
    by_cases c4 : 0 ≤ t325
    · rw [if_pos c4] at H
      have c4b0 := eq_true c4
      have c4b1 : decide (0 ≤ t325) = true := decide_eq_true c4
      clear c4
      by_cases c5 : t325 ≤ (l0.length : Int)
      · rw [if_pos c5] at H
        have c5b0 := eq_true c5
        have c5b1 : decide (t325 ≤ (l0.length : Int)) = true := decide_eq_true c5
        clear c5
        by_cases c6 : ((l0.drop (t325 : Int).toNat).length : Int) = 0
        · rw [if_pos c6] at H
          have c6b0 : (((l0.drop (t325 : Int).toNat).length : Int) == 0) = true := beq_iff_eq.mpr c6
          have c6b1 : (((l0.drop (t325 : Int).toNat).length : Int) != 0) = false := bne_eq_false_iff_eq.mpr c6
          have c6b2 : (((l0.length - (t325 : Int).toNat : Nat) : Int) == 0) = true := by rw [← List.length_drop]; exact beq_iff_eq.mpr c6
          have c6b3 : (((l0.length - (t325 : Int).toNat : Nat) : Int) != 0) = false := by rw [← List.length_drop]; exact bne_eq_false_iff_eq.mpr c6
          clear c6
          simp only [Option.some.injEq, Prod.mk.injEq] at H
          obtain ⟨rfl, rfl, rfl⟩ := H
          go_enter Try.func25, Try.ntmps25
          go_wp2_with (first | ((with_reducible refine gate_dst (N := 2) rfl ?_); refine box_event ?hg (N := 2) ?hd (cs := #[.int .i64 0, .int .i64 0]) (t := 43) ?hr ?_; (case hd => rfl); (case hg => rfl); (case hr => first | (go_simp; done) | (go_simp; rfl)); intro gb324 hg w7 hbox hb; have n0_ := Aside0.mk (below_step (by repeat (first | (with_reducible first | exact HB.out | apply below_alloc | apply pw_below_drewN | apply below_drew1) | exact HB.out)) hb); have n1_ := Aside0.mk (hbox); have n2_ := Aside0.mk ((by rw [hg]; exact (below_size (by repeat (first | (with_reducible first | exact HB.out | apply below_alloc | apply pw_below_drewN | apply below_drew1) | exact HB.out))) : w.heap.size ≤ gb324)); have n3_ := Aside0.mk ((by rw [hg]; exact (below_size (by repeat (first | (with_reducible first | exact HB.out | apply below_alloc | apply pw_below_drewN | apply below_drew1) | exact HB.out))) : w.heap.size ≤ gb324)); clear HB; have HB := n0_; have BK324 := n1_; have GW324 := n2_; have GE324 := n3_; clear n0_ n1_ n2_ n3_; clear hb hbox hg) | (go_at_call 33; (with_reducible refine (head_begin.calls _ _ l0 t325 t326 _ ?side1 ?side2 A2.out).mono ?_); (case side1 => repeat (first | exact (Kd.C_below HR0.out HB.out) | (with_reducible refine Kd.C_alloc ?_ _) | (with_reducible refine Kd.C_drewN ?_ _) | (with_reducible refine Kd.C_drew ?_))); (case side2 => exact HC0.out); rintro e w' ⟨rfl, ⟨nd, rfl⟩⟩; (try first | exact ⟨rfl, _, World.drewN_drewN _ _ _⟩ | exact ⟨rfl, _, Eq.trans (World.drewN_drewN _ _ _) (congrArg (World.drewN _) (Nat.add_assoc _ _ _))⟩); obtain ⟨i08, hi08, _, hsz8, _⟩ := info_parts info5; obtain ⟨A8, hcut8, hA8, hC8⟩ := print_drop_of (P := Try.prog) (Value.int .u8) 0 22 5 .i64 Try.underlying22 hi08 hsz8 A0 c0 l0 t325 (of_decide_eq_true (by first | (with_reducible assumption) | assumption)) (of_decide_eq_true (by first | (with_reducible assumption) | assumption)) HC0.out; have HR327 := Aside0.mk (Kd.C_of_reads (h1 := fun _ => rfl) (hA8 _ (Kd.reads_of_C HR0.out))); have HC327 := Aside0.mk hC8; clear hA8 hC8 hi08 hsz8; have hcz9_0 : w7.cell? ⟨gb324, 0, none⟩ = some (.int .i64 0) := (blk_cell BK324.out 0).trans rfl; have hcz9_1 : w7.cell? ⟨gb324, 1, none⟩ = some (.int .i64 0) := (blk_cell BK324.out 1).trans rfl; have hfz9_0 := blk_frozen BK324.out 0; have hfz9_1 := blk_frozen BK324.out 1))
          repeat (go_quiet (first | ((with_reducible refine gate_dst (N := 2) rfl ?_); refine box_event ?hg (N := 2) ?hd (cs := #[.int .i64 0, .int .i64 0]) (t := 43) ?hr ?_; (case hd => rfl); (case hg => rfl); (case hr => first | (go_simp; done) | (go_simp; rfl)); intro gb324 hg w7 hbox hb; have n0_ := Aside0.mk (below_step (by repeat (first | (with_reducible first | exact HB.out | apply below_alloc | apply pw_below_drewN | apply below_drew1) | exact HB.out)) hb); have n1_ := Aside0.mk (hbox); have n2_ := Aside0.mk ((by rw [hg]; exact (below_size (by repeat (first | (with_reducible first | exact HB.out | apply below_alloc | apply pw_below_drewN | apply below_drew1) | exact HB.out))) : w.heap.size ≤ gb324)); have n3_ := Aside0.mk ((by rw [hg]; exact (below_size (by repeat (first | (with_reducible first | exact HB.out | apply below_alloc | apply pw_below_drewN | apply below_drew1) | exact HB.out))) : w.heap.size ≤ gb324)); clear HB; have HB := n0_; have BK324 := n1_; have GW324 := n2_; have GE324 := n3_; clear n0_ n1_ n2_ n3_; clear hb hbox hg) | (go_at_call 33; (with_reducible refine (head_begin.calls _ _ l0 t325 t326 _ ?side1 ?side2 A2.out).mono ?_); (case side1 => repeat (first | exact (Kd.C_below HR0.out HB.out) | (with_reducible refine Kd.C_alloc ?_ _) | (with_reducible refine Kd.C_drewN ?_ _) | (with_reducible refine Kd.C_drew ?_))); (case side2 => exact HC0.out); rintro e w' ⟨rfl, ⟨nd, rfl⟩⟩; (try first | exact ⟨rfl, _, World.drewN_drewN _ _ _⟩ | exact ⟨rfl, _, Eq.trans (World.drewN_drewN _ _ _) (congrArg (World.drewN _) (Nat.add_assoc _ _ _))⟩); obtain ⟨i08, hi08, _, hsz8, _⟩ := info_parts info5; obtain ⟨A8, hcut8, hA8, hC8⟩ := print_drop_of (P := Try.prog) (Value.int .u8) 0 22 5 .i64 Try.underlying22 hi08 hsz8 A0 c0 l0 t325 (of_decide_eq_true (by first | (with_reducible assumption) | assumption)) (of_decide_eq_true (by first | (with_reducible assumption) | assumption)) HC0.out; have HR327 := Aside0.mk (Kd.C_of_reads (h1 := fun _ => rfl) (hA8 _ (Kd.reads_of_C HR0.out))); have HC327 := Aside0.mk hC8; clear hA8 hC8 hi08 hsz8; have hcz9_0 : w7.cell? ⟨gb324, 0, none⟩ = some (.int .i64 0) := (blk_cell BK324.out 0).trans rfl; have hcz9_1 : w7.cell? ⟨gb324, 1, none⟩ = some (.int .i64 0) := (blk_cell BK324.out 1).trans rfl; have hfz9_0 := blk_frozen BK324.out 0; have hfz9_1 := blk_frozen BK324.out 1)); try go_wp2_with (first | ((with_reducible refine gate_dst (N := 2) rfl ?_); refine box_event ?hg (N := 2) ?hd (cs := #[.int .i64 0, .int .i64 0]) (t := 43) ?hr ?_; (case hd => rfl); (case hg => rfl); (case hr => first | (go_simp; done) | (go_simp; rfl)); intro gb324 hg w7 hbox hb; have n0_ := Aside0.mk (below_step (by repeat (first | (with_reducible first | exact HB.out | apply below_alloc | apply pw_below_drewN | apply below_drew1) | exact HB.out)) hb); have n1_ := Aside0.mk (hbox); have n2_ := Aside0.mk ((by rw [hg]; exact (below_size (by repeat (first | (with_reducible first | exact HB.out | apply below_alloc | apply pw_below_drewN | apply below_drew1) | exact HB.out))) : w.heap.size ≤ gb324)); have n3_ := Aside0.mk ((by rw [hg]; exact (below_size (by repeat (first | (with_reducible first | exact HB.out | apply below_alloc | apply pw_below_drewN | apply below_drew1) | exact HB.out))) : w.heap.size ≤ gb324)); clear HB; have HB := n0_; have BK324 := n1_; have GW324 := n2_; have GE324 := n3_; clear n0_ n1_ n2_ n3_; clear hb hbox hg) | (go_at_call 33; (with_reducible refine (head_begin.calls _ _ l0 t325 t326 _ ?side1 ?side2 A2.out).mono ?_); (case side1 => repeat (first | exact (Kd.C_below HR0.out HB.out) | (with_reducible refine Kd.C_alloc ?_ _) | (with_reducible refine Kd.C_drewN ?_ _) | (with_reducible refine Kd.C_drew ?_))); (case side2 => exact HC0.out); rintro e w' ⟨rfl, ⟨nd, rfl⟩⟩; (try first | exact ⟨rfl, _, World.drewN_drewN _ _ _⟩ | exact ⟨rfl, _, Eq.trans (World.drewN_drewN _ _ _) (congrArg (World.drewN _) (Nat.add_assoc _ _ _))⟩); obtain ⟨i08, hi08, _, hsz8, _⟩ := info_parts info5; obtain ⟨A8, hcut8, hA8, hC8⟩ := print_drop_of (P := Try.prog) (Value.int .u8) 0 22 5 .i64 Try.underlying22 hi08 hsz8 A0 c0 l0 t325 (of_decide_eq_true (by first | (with_reducible assumption) | assumption)) (of_decide_eq_true (by first | (with_reducible assumption) | assumption)) HC0.out; have HR327 := Aside0.mk (Kd.C_of_reads (h1 := fun _ => rfl) (hA8 _ (Kd.reads_of_C HR0.out))); have HC327 := Aside0.mk hC8; clear hA8 hC8 hi08 hsz8; have hcz9_0 : w7.cell? ⟨gb324, 0, none⟩ = some (.int .i64 0) := (blk_cell BK324.out 0).trans rfl; have hcz9_1 : w7.cell? ⟨gb324, 1, none⟩ = some (.int .i64 0) := (blk_cell BK324.out 1).trans rfl; have hfz9_0 := blk_frozen BK324.out 0; have hfz9_1 := blk_frozen BK324.out 1)))
          refine bodyPost_ret (results_ct rfl _ _ gb324 43 #[.int .i64 0, .int .i64 0] (0, 0) _ rfl (by (with_reducible repeat (first | refine blk_drewN ?_ _ | refine blk_drew ?_ | refine blk_alloc ?_ _)); refine blk_put (cs := #[.int .i64 0, .int .i64 0]) ?_ 1 _ rfl; (with_reducible repeat (first | refine blk_drewN ?_ _ | refine blk_drew ?_ | refine blk_alloc ?_ _)); refine blk_put (cs := #[.int .i64 0, .int .i64 0]) ?_ 0 _ rfl; (with_reducible repeat (first | refine blk_drewN ?_ _ | refine blk_drew ?_ | refine blk_alloc ?_ _)); exact BK324.out) Try.underlying43 rfl (by kernel_rfl)) rfl ?_
          exact ⟨by first | rfl | (simp [errW_none, errW_some] <;> rfl) | (simp [*, errW_none, errW_some] <;> rfl), by repeat (first | (with_reducible first | exact HB.out | apply below_alloc | apply pw_below_drewN | apply below_drew1 | refine below_set ?_ GE324.out) | exact HB.out)⟩
        · rw [if_neg c6] at H
          have c6b0 : (((l0.drop (t325 : Int).toNat).length : Int) == 0) = false := beq_eq_false_iff_ne.mpr c6
          have c6b1 : (((l0.drop (t325 : Int).toNat).length : Int) != 0) = true := bne_iff_ne.mpr c6
          have c6b2 : ¬ ((l0.drop (t325 : Int).toNat) = []) := fun h_ => c6 (by rw [h_]; rfl)
          have c6b3 : (((l0.length - (t325 : Int).toNat : Nat) : Int) == 0) = false := by rw [← List.length_drop]; exact beq_eq_false_iff_ne.mpr c6
          have c6b4 : (((l0.length - (t325 : Int).toNat : Nat) : Int) != 0) = true := by rw [← List.length_drop]; exact bne_iff_ne.mpr c6
          have HC10 := Aside0.mk H
          clear H
          go_enter Try.func25, Try.ntmps25
          go_upto_region 7 with (first | ((with_reducible refine gate_dst (N := 2) rfl ?_); refine box_event ?hg (N := 2) ?hd (cs := #[.int .i64 0, .int .i64 0]) (t := 43) ?hr ?_; (case hd => rfl); (case hg => rfl); (case hr => first | (go_simp; done) | (go_simp; rfl)); intro gb324 hg w11 hbox hb; have n0_ := Aside0.mk (below_step (by repeat (first | (with_reducible first | exact HB.out | apply below_alloc | apply pw_below_drewN | apply below_drew1) | exact HB.out)) hb); have n1_ := Aside0.mk (hbox); have n2_ := Aside0.mk ((by rw [hg]; exact (below_size (by repeat (first | (with_reducible first | exact HB.out | apply below_alloc | apply pw_below_drewN | apply below_drew1) | exact HB.out))) : w.heap.size ≤ gb324)); have n3_ := Aside0.mk ((by rw [hg]; exact (below_size (by repeat (first | (with_reducible first | exact HB.out | apply below_alloc | apply pw_below_drewN | apply below_drew1) | exact HB.out))) : w.heap.size ≤ gb324)); clear HB; have HB := n0_; have BK324 := n1_; have GW324 := n2_; have GE324 := n3_; clear n0_ n1_ n2_ n3_; clear hb hbox hg) | (go_at_call 33; (with_reducible refine (head_begin.calls _ _ l0 t325 t326 _ ?side1 ?side2 A2.out).mono ?_); (case side1 => repeat (first | exact (Kd.C_below HR0.out HB.out) | (with_reducible refine Kd.C_alloc ?_ _) | (with_reducible refine Kd.C_drewN ?_ _) | (with_reducible refine Kd.C_drew ?_))); (case side2 => exact HC0.out); rintro e w' ⟨rfl, ⟨nd, rfl⟩⟩; (try first | exact ⟨rfl, _, World.drewN_drewN _ _ _⟩ | exact ⟨rfl, _, Eq.trans (World.drewN_drewN _ _ _) (congrArg (World.drewN _) (Nat.add_assoc _ _ _))⟩); obtain ⟨i012, hi012, _, hsz12, _⟩ := info_parts info5; obtain ⟨A12, hcut12, hA12, hC12⟩ := print_drop_of (P := Try.prog) (Value.int .u8) 0 22 5 .i64 Try.underlying22 hi012 hsz12 A0 c0 l0 t325 (of_decide_eq_true (by first | (with_reducible assumption) | assumption)) (of_decide_eq_true (by first | (with_reducible assumption) | assumption)) HC0.out; have HR327 := Aside0.mk (Kd.C_of_reads (h1 := fun _ => rfl) (hA12 _ (Kd.reads_of_C HR0.out))); have HC327 := Aside0.mk hC12; clear hA12 hC12 hi012 hsz12))
          repeat (go_quiet (first | ((with_reducible refine gate_dst (N := 2) rfl ?_); refine box_event ?hg (N := 2) ?hd (cs := #[.int .i64 0, .int .i64 0]) (t := 43) ?hr ?_; (case hd => rfl); (case hg => rfl); (case hr => first | (go_simp; done) | (go_simp; rfl)); intro gb324 hg w11 hbox hb; have n0_ := Aside0.mk (below_step (by repeat (first | (with_reducible first | exact HB.out | apply below_alloc | apply pw_below_drewN | apply below_drew1) | exact HB.out)) hb); have n1_ := Aside0.mk (hbox); have n2_ := Aside0.mk ((by rw [hg]; exact (below_size (by repeat (first | (with_reducible first | exact HB.out | apply below_alloc | apply pw_below_drewN | apply below_drew1) | exact HB.out))) : w.heap.size ≤ gb324)); have n3_ := Aside0.mk ((by rw [hg]; exact (below_size (by repeat (first | (with_reducible first | exact HB.out | apply below_alloc | apply pw_below_drewN | apply below_drew1) | exact HB.out))) : w.heap.size ≤ gb324)); clear HB; have HB := n0_; have BK324 := n1_; have GW324 := n2_; have GE324 := n3_; clear n0_ n1_ n2_ n3_; clear hb hbox hg) | (go_at_call 33; (with_reducible refine (head_begin.calls _ _ l0 t325 t326 _ ?side1 ?side2 A2.out).mono ?_); (case side1 => repeat (first | exact (Kd.C_below HR0.out HB.out) | (with_reducible refine Kd.C_alloc ?_ _) | (with_reducible refine Kd.C_drewN ?_ _) | (with_reducible refine Kd.C_drew ?_))); (case side2 => exact HC0.out); rintro e w' ⟨rfl, ⟨nd, rfl⟩⟩; (try first | exact ⟨rfl, _, World.drewN_drewN _ _ _⟩ | exact ⟨rfl, _, Eq.trans (World.drewN_drewN _ _ _) (congrArg (World.drewN _) (Nat.add_assoc _ _ _))⟩); obtain ⟨i012, hi012, _, hsz12, _⟩ := info_parts info5; obtain ⟨A12, hcut12, hA12, hC12⟩ := print_drop_of (P := Try.prog) (Value.int .u8) 0 22 5 .i64 Try.underlying22 hi012 hsz12 A0 c0 l0 t325 (of_decide_eq_true (by first | (with_reducible assumption) | assumption)) (of_decide_eq_true (by first | (with_reducible assumption) | assumption)) HC0.out; have HR327 := Aside0.mk (Kd.C_of_reads (h1 := fun _ => rfl) (hA12 _ (Kd.reads_of_C HR0.out))); have HC327 := Aside0.mk hC12; clear hA12 hC12 hi012 hsz12)); go_upto_region 7 with (first | ((with_reducible refine gate_dst (N := 2) rfl ?_); refine box_event ?hg (N := 2) ?hd (cs := #[.int .i64 0, .int .i64 0]) (t := 43) ?hr ?_; (case hd => rfl); (case hg => rfl); (case hr => first | (go_simp; done) | (go_simp; rfl)); intro gb324 hg w11 hbox hb; have n0_ := Aside0.mk (below_step (by repeat (first | (with_reducible first | exact HB.out | apply below_alloc | apply pw_below_drewN | apply below_drew1) | exact HB.out)) hb); have n1_ := Aside0.mk (hbox); have n2_ := Aside0.mk ((by rw [hg]; exact (below_size (by repeat (first | (with_reducible first | exact HB.out | apply below_alloc | apply pw_below_drewN | apply below_drew1) | exact HB.out))) : w.heap.size ≤ gb324)); have n3_ := Aside0.mk ((by rw [hg]; exact (below_size (by repeat (first | (with_reducible first | exact HB.out | apply below_alloc | apply pw_below_drewN | apply below_drew1) | exact HB.out))) : w.heap.size ≤ gb324)); clear HB; have HB := n0_; have BK324 := n1_; have GW324 := n2_; have GE324 := n3_; clear n0_ n1_ n2_ n3_; clear hb hbox hg) | (go_at_call 33; (with_reducible refine (head_begin.calls _ _ l0 t325 t326 _ ?side1 ?side2 A2.out).mono ?_); (case side1 => repeat (first | exact (Kd.C_below HR0.out HB.out) | (with_reducible refine Kd.C_alloc ?_ _) | (with_reducible refine Kd.C_drewN ?_ _) | (with_reducible refine Kd.C_drew ?_))); (case side2 => exact HC0.out); rintro e w' ⟨rfl, ⟨nd, rfl⟩⟩; (try first | exact ⟨rfl, _, World.drewN_drewN _ _ _⟩ | exact ⟨rfl, _, Eq.trans (World.drewN_drewN _ _ _) (congrArg (World.drewN _) (Nat.add_assoc _ _ _))⟩); obtain ⟨i012, hi012, _, hsz12, _⟩ := info_parts info5; obtain ⟨A12, hcut12, hA12, hC12⟩ := print_drop_of (P := Try.prog) (Value.int .u8) 0 22 5 .i64 Try.underlying22 hi012 hsz12 A0 c0 l0 t325 (of_decide_eq_true (by first | (with_reducible assumption) | assumption)) (of_decide_eq_true (by first | (with_reducible assumption) | assumption)) HC0.out; have HR327 := Aside0.mk (Kd.C_of_reads (h1 := fun _ => rfl) (hA12 _ (Kd.reads_of_C HR0.out))); have HC327 := Aside0.mk hC12; clear hA12 hC12 hi012 hsz12)))
          (try simp only [Act.put, List.setIfInBounds_toArray, List.set_cons_zero, List.set_cons_succ])
          go_cut [25] (fun v25 wc => ∃ (kq : Nat) (x25_9 : Bool), v25 = .bool x25_9 ∧ Aside0 (head_Read.j0 kq t325 (l0.drop (t325 : Int).toNat) x25_9 = some (r1, r2, r3)) ∧ Aside0 (kq ≤ k) ∧ Aside0 (wc.heap[gb324]? = some (.cells #[.int .i64 0, .int .i64 0] 43 (0, 0))) ∧ Aside0 (Below w.heap.size w wc))
          case first =>
            have H := HC10.out
            clear HC10
            by_cases c13 : 0 < ((l0.drop (t325 : Int).toNat).length : Int)
            · rw [if_pos c13] at H
              have c13b0 : decide (0 < ((l0.drop (t325 : Int).toNat).length : Int)) = true := decide_eq_true c13
              have c13b1 : decide (0 < (l0.drop (t325 : Int).toNat).length) = true := decide_eq_true (by omega)
              have c13b2 : decide (0 < ((l0.length - (t325 : Int).toNat : Nat) : Int)) = true := by rw [← List.length_drop]; exact decide_eq_true c13
              have c13b3 : (0 < ((l0.length - (t325 : Int).toNat : Nat) : Int)) = True := by rw [← List.length_drop]; exact eq_true (by first | exact of_decide_eq_true (decide_eq_true c13) | omega)
              have c13b4 : decide (0 < (l0.length - (t325 : Int).toNat)) = true := by rw [← List.length_drop]; exact decide_eq_true (by omega)
              have c13b5 : (0 < (l0.length - (t325 : Int).toNat)) = True := by rw [← List.length_drop]; exact eq_true (by first | exact of_decide_eq_true (decide_eq_true (by omega)) | omega)
              clear c13
              (first | rw [c13b0] | (simp only [i64_w, i32_w]; rw [c13b0]) | skip)
              by_cases c14 : (Go.bits .and .u8 (rd (l0.drop (t325 : Int).toNat) 0) 1) = 1
              · rw [if_pos c14] at H
                have c14b0 : ((Go.bits .and .u8 (rd (l0.drop (t325 : Int).toNat) 0) 1) == 1) = true := beq_iff_eq.mpr c14
                have c14b1 : ((Go.bits .and .u8 (rd (l0.drop (t325 : Int).toNat) 0) 1) != 1) = false := bne_eq_false_iff_eq.mpr c14
                clear c14
                replace H := Option.bind_eq_some_iff.mp H
                obtain ⟨t330, A150, H⟩ := H
                replace H : (head_Read.j0 k t325 (l0.drop (t325 : Int).toNat) t330) = some (r1, r2, r3) := H
                have A15 := Aside0.mk A150
                clear A150
                have H' := Aside0.mk H
                clear H
                have p328 : 0 ≤ (0 : Int) := (by omega)
                have q328 : 0 < ((l0.drop (t325 : Int).toNat).length : Int) := of_decide_eq_true (by first | (with_reducible assumption) | assumption)
                obtain ⟨ad328, e328, hx328_0⟩ := Kd.at_int HR327.out 0 p328 q328
                cases e328
                have qi328 : (0 < (l0.drop (t325 : Int).toNat).length) = True := eq_true (by omega)
                (try rw [show ((0 : Int)).toNat = 0 from rfl] at hx328_0)
                (try rw [Addr.add_zero'] at hx328_0)
                replace hx328_0 := (HB.out.cell (World.block_lt_of_cell? w _ hx328_0)).trans hx328_0
                replace p328 := eq_true p328
                replace q328 := eq_true q328
                have p329 : 0 ≤ (0 : Int) := (by omega)
                have q329 : 0 < ((l0.drop (t325 : Int).toNat).length : Int) := of_decide_eq_true (by first | (with_reducible assumption) | assumption)
                obtain ⟨ad329, e329, hx329_0⟩ := Kd.at_int HR327.out 0 p329 q329
                obtain rfl : ad328 = ad329 := (by injection e329)
                have qi329 : (0 < (l0.drop (t325 : Int).toNat).length) = True := eq_true (by omega)
                (try rw [show ((0 : Int)).toNat = 0 from rfl] at hx329_0)
                (try rw [Addr.add_zero'] at hx329_0)
                replace hx329_0 := (HB.out.cell (World.block_lt_of_cell? w _ hx329_0)).trans hx329_0
                replace p329 := eq_true p329
                replace q329 := eq_true q329
                go_wp2_with (first | (go_at_call 23; (with_reducible refine (head_May.calls (wrap64 (rd (l0.drop (t325 : Int).toNat) 0)) t330 _ A15.out).mono ?_); rintro e w' ⟨rfl, ⟨nd, rfl⟩⟩; (try first | exact ⟨rfl, _, World.drewN_drewN _ _ _⟩ | exact ⟨rfl, _, Eq.trans (World.drewN_drewN _ _ _) (congrArg (World.drewN _) (Nat.add_assoc _ _ _))⟩)))
                repeat (go_quiet (first | (go_at_call 23; (with_reducible refine (head_May.calls (wrap64 (rd (l0.drop (t325 : Int).toNat) 0)) t330 _ A15.out).mono ?_); rintro e w' ⟨rfl, ⟨nd, rfl⟩⟩; (try first | exact ⟨rfl, _, World.drewN_drewN _ _ _⟩ | exact ⟨rfl, _, Eq.trans (World.drewN_drewN _ _ _) (congrArg (World.drewN _) (Nat.add_assoc _ _ _))⟩))); try go_wp2_with (first | (go_at_call 23; (with_reducible refine (head_May.calls (wrap64 (rd (l0.drop (t325 : Int).toNat) 0)) t330 _ A15.out).mono ?_); rintro e w' ⟨rfl, ⟨nd, rfl⟩⟩; (try first | exact ⟨rfl, _, World.drewN_drewN _ _ _⟩ | exact ⟨rfl, _, Eq.trans (World.drewN_drewN _ _ _) (congrArg (World.drewN _) (Nat.add_assoc _ _ _))⟩))))
                go_meet
                case rel => exact ⟨_, (t330), (by first | rfl | (simp; done) | (simp [*]; done)), H', ⟨by first | omega | exact Nat.le_refl _⟩, ⟨by (with_reducible repeat (first | refine blk_drewN ?_ _ | refine blk_drew ?_ | refine blk_alloc ?_ _)); exact BK324.out⟩, ⟨by repeat (first | (with_reducible first | exact HB.out | apply below_alloc | apply pw_below_drewN | apply below_drew1 | refine below_set ?_ GE324.out) | exact HB.out)⟩⟩
              · rw [if_neg c14] at H
                have c14b0 : ((Go.bits .and .u8 (rd (l0.drop (t325 : Int).toNat) 0) 1) == 1) = false := beq_eq_false_iff_ne.mpr c14
                have c14b1 : ((Go.bits .and .u8 (rd (l0.drop (t325 : Int).toNat) 0) 1) != 1) = true := bne_iff_ne.mpr c14
                have H' := Aside0.mk H
                clear H
                have p328 : 0 ≤ (0 : Int) := (by omega)
                have q328 : 0 < ((l0.drop (t325 : Int).toNat).length : Int) := of_decide_eq_true (by first | (with_reducible assumption) | assumption)
                obtain ⟨ad328, e328, hx328_0⟩ := Kd.at_int HR327.out 0 p328 q328
                cases e328
                have qi328 : (0 < (l0.drop (t325 : Int).toNat).length) = True := eq_true (by omega)
                (try rw [show ((0 : Int)).toNat = 0 from rfl] at hx328_0)
                (try rw [Addr.add_zero'] at hx328_0)
                replace hx328_0 := (HB.out.cell (World.block_lt_of_cell? w _ hx328_0)).trans hx328_0
                replace p328 := eq_true p328
                replace q328 := eq_true q328
                go_wp2
                repeat (go_quiet (fail); try go_wp2)
                go_meet
                case rel => exact ⟨_, (false), (by first | rfl | (simp; done) | (simp [*]; done)), H', ⟨by first | omega | exact Nat.le_refl _⟩, ⟨by (with_reducible repeat (first | refine blk_drewN ?_ _ | refine blk_drew ?_ | refine blk_alloc ?_ _)); exact BK324.out⟩, ⟨by repeat (first | (with_reducible first | exact HB.out | apply below_alloc | apply pw_below_drewN | apply below_drew1 | refine below_set ?_ GE324.out) | exact HB.out)⟩⟩
            · rw [if_neg c13] at H
              exact absurd H (by simp)
          case rest =>
            clear HC10
            try clear c1
            try clear c2
            try clear p2
            try clear c3
            try clear c3b0
            try clear c3b1
            try clear p3
            try clear q3
            try clear hx3
            try clear qi3
            try clear c4
            try clear c4b0
            try clear c4b1
            try clear c5
            try clear c5b0
            try clear c5b1
            try clear c6
            try clear c6b0
            try clear c6b1
            try clear c6b2
            try clear p6
            try clear c13
            try clear c13b0
            try clear c13b1
            try clear c13b2
            try clear c14
            try clear c14b0
            try clear c14b1
            try clear hcz9_0
            try clear hcz9_1
            try clear hfz9_0
            try clear hfz9_1
            try clear hx328_0
            try clear hx329_0
            try clear p328
            try clear p329
            try clear q328
            try clear q329
            obtain ⟨kq, x25_9, rfl, HA, HJ9, BK324, HB⟩ := hcut
            cases kq with
            | zero => exact absurd HA.out (by simp [head_Read.j0])
            | succ kj9 =>
              have H := HA.out
              clear HA
              simp only [head_Read.j0] at H
              by_cases c16 : x25_9 = true
              · subst c16
                have H1 : (if 0 < ((l0.drop (t325 : Int).toNat).length : Int) then (some (wrap64 (rd (l0.drop (t325 : Int).toNat) 0), wrap64 (t325 + 1), 0)) else (none)) = some (r1, r2, r3) := by rw [if_pos rfl] at H; exact H
                clear H
                have H := H1
                clear H1
                by_cases c17 : 0 < ((l0.drop (t325 : Int).toNat).length : Int)
                · rw [if_pos c17] at H
                  have c17b0 : decide (0 < ((l0.drop (t325 : Int).toNat).length : Int)) = true := decide_eq_true c17
                  have c17b1 : decide (0 < (l0.drop (t325 : Int).toNat).length) = true := decide_eq_true (by omega)
                  have c17b2 : decide (0 < ((l0.length - (t325 : Int).toNat : Nat) : Int)) = true := by rw [← List.length_drop]; exact decide_eq_true c17
                  have c17b3 : (0 < ((l0.length - (t325 : Int).toNat : Nat) : Int)) = True := by rw [← List.length_drop]; exact eq_true (by first | exact of_decide_eq_true (decide_eq_true c17) | omega)
                  have c17b4 : decide (0 < (l0.length - (t325 : Int).toNat)) = true := by rw [← List.length_drop]; exact decide_eq_true (by omega)
                  have c17b5 : (0 < (l0.length - (t325 : Int).toNat)) = True := by rw [← List.length_drop]; exact eq_true (by first | exact of_decide_eq_true (decide_eq_true (by omega)) | omega)
                  clear c17
                  simp only [Option.some.injEq, Prod.mk.injEq] at H
                  obtain ⟨rfl, rfl, rfl⟩ := H
                  have p331 : 0 ≤ (0 : Int) := (by omega)
                  have q331 : 0 < ((l0.drop (t325 : Int).toNat).length : Int) := of_decide_eq_true (by first | (with_reducible assumption) | assumption)
                  obtain ⟨ad331, e331, hx331_0⟩ := Kd.at_int HR327.out 0 p331 q331
                  cases e331
                  have qi331 : (0 < (l0.drop (t325 : Int).toNat).length) = True := eq_true (by omega)
                  (try rw [show ((0 : Int)).toNat = 0 from rfl] at hx331_0)
                  (try rw [Addr.add_zero'] at hx331_0)
                  replace hx331_0 := (HB.out.cell (World.block_lt_of_cell? w _ hx331_0)).trans hx331_0
                  replace p331 := eq_true p331
                  replace q331 := eq_true q331
                  have hcz18_0 : wc.cell? ⟨gb324, 0, none⟩ = some (.int .i64 0) := (blk_cell BK324.out 0).trans rfl
                  have hcz18_1 : wc.cell? ⟨gb324, 1, none⟩ = some (.int .i64 0) := (blk_cell BK324.out 1).trans rfl
                  have hfz18_0 := blk_frozen BK324.out 0
                  have hfz18_1 := blk_frozen BK324.out 1
                  go_wp2
                  repeat (go_quiet (fail); try go_wp2)
                  refine bodyPost_ret (results_ct rfl _ _ gb324 43 #[.int .i64 (wrap64 (rd (l0.drop (t325 : Int).toNat) 0)), .int .i64 (wrap64 (t325 + 1))] (0, 0) _ rfl (by (with_reducible repeat (first | refine blk_drewN ?_ _ | refine blk_drew ?_ | refine blk_alloc ?_ _)); refine blk_put (cs := #[.int .i64 (wrap64 (rd (l0.drop (t325 : Int).toNat) 0)), .int .i64 0]) ?_ 1 _ rfl; (with_reducible repeat (first | refine blk_drewN ?_ _ | refine blk_drew ?_ | refine blk_alloc ?_ _)); refine blk_put (cs := #[.int .i64 0, .int .i64 0]) ?_ 0 _ rfl; (with_reducible repeat (first | refine blk_drewN ?_ _ | refine blk_drew ?_ | refine blk_alloc ?_ _)); exact BK324.out) Try.underlying43 rfl (by kernel_rfl)) rfl ?_
                  exact ⟨by first | rfl | (simp [errW_none, errW_some] <;> rfl) | (simp [*, errW_none, errW_some] <;> rfl), by repeat (first | (with_reducible first | exact HB.out | apply below_alloc | apply pw_below_drewN | apply below_drew1 | refine below_set ?_ GE324.out) | exact HB.out)⟩
                · rw [if_neg c17] at H
                  exact absurd H (by simp)
              · replace c16 := Bool.eq_false_iff.mpr c16
                subst c16
                have H1 : (if 0 < ((l0.drop (t325 : Int).toNat).length : Int) then (if (Go.bits .and .u8 (rd (l0.drop (t325 : Int).toNat) 0) 1) = 1 then (some (0, 0, 3)) else (if ((l0.drop (t325 : Int).toNat).length : Int) = 1 then (some (0, 0, 2)) else (if 1 < ((l0.drop (t325 : Int).toNat).length : Int) then ((head_May.f (Go.bits .or .i64 (wrap64 ((wrap64 (rd (l0.drop (t325 : Int).toNat) 0)) * 256)) (wrap64 (rd (l0.drop (t325 : Int).toNat) 1)))).bind fun t335 => (if t335 = true then (some (Go.bits .or .i64 (wrap64 ((wrap64 (rd (l0.drop (t325 : Int).toNat) 0)) * 256)) (wrap64 (rd (l0.drop (t325 : Int).toNat) 1)), wrap64 (t325 + 2), 0)) else (some (0, 0, 3)))) else (none)))) else (none)) = some (r1, r2, r3) := by rw [if_neg (show ¬ (false = true) by decide)] at H; exact H
                clear H
                have H := H1
                clear H1
                by_cases c19 : 0 < ((l0.drop (t325 : Int).toNat).length : Int)
                · rw [if_pos c19] at H
                  have c19b0 : decide (0 < ((l0.drop (t325 : Int).toNat).length : Int)) = true := decide_eq_true c19
                  have c19b1 : decide (0 < (l0.drop (t325 : Int).toNat).length) = true := decide_eq_true (by omega)
                  have c19b2 : decide (0 < ((l0.length - (t325 : Int).toNat : Nat) : Int)) = true := by rw [← List.length_drop]; exact decide_eq_true c19
                  have c19b3 : (0 < ((l0.length - (t325 : Int).toNat : Nat) : Int)) = True := by rw [← List.length_drop]; exact eq_true (by first | exact of_decide_eq_true (decide_eq_true c19) | omega)
                  have c19b4 : decide (0 < (l0.length - (t325 : Int).toNat)) = true := by rw [← List.length_drop]; exact decide_eq_true (by omega)
                  have c19b5 : (0 < (l0.length - (t325 : Int).toNat)) = True := by rw [← List.length_drop]; exact eq_true (by first | exact of_decide_eq_true (decide_eq_true (by omega)) | omega)
                  clear c19
                  by_cases c20 : (Go.bits .and .u8 (rd (l0.drop (t325 : Int).toNat) 0) 1) = 1
                  · rw [if_pos c20] at H
                    have c20b0 : ((Go.bits .and .u8 (rd (l0.drop (t325 : Int).toNat) 0) 1) == 1) = true := beq_iff_eq.mpr c20
                    have c20b1 : ((Go.bits .and .u8 (rd (l0.drop (t325 : Int).toNat) 0) 1) != 1) = false := bne_eq_false_iff_eq.mpr c20
                    clear c20
                    simp only [Option.some.injEq, Prod.mk.injEq] at H
                    obtain ⟨rfl, rfl, rfl⟩ := H
                    have p332 : 0 ≤ (0 : Int) := (by omega)
                    have q332 : 0 < ((l0.drop (t325 : Int).toNat).length : Int) := of_decide_eq_true (by first | (with_reducible assumption) | assumption)
                    obtain ⟨ad332, e332, hx332_0⟩ := Kd.at_int HR327.out 0 p332 q332
                    cases e332
                    have qi332 : (0 < (l0.drop (t325 : Int).toNat).length) = True := eq_true (by omega)
                    (try rw [show ((0 : Int)).toNat = 0 from rfl] at hx332_0)
                    (try rw [Addr.add_zero'] at hx332_0)
                    replace hx332_0 := (HB.out.cell (World.block_lt_of_cell? w _ hx332_0)).trans hx332_0
                    replace p332 := eq_true p332
                    replace q332 := eq_true q332
                    have hcz21_0 : wc.cell? ⟨gb324, 0, none⟩ = some (.int .i64 0) := (blk_cell BK324.out 0).trans rfl
                    have hcz21_1 : wc.cell? ⟨gb324, 1, none⟩ = some (.int .i64 0) := (blk_cell BK324.out 1).trans rfl
                    have hfz21_0 := blk_frozen BK324.out 0
                    have hfz21_1 := blk_frozen BK324.out 1
                    go_wp2
                    repeat (go_quiet (fail); try go_wp2)
                    refine bodyPost_ret (results_ct rfl _ _ gb324 43 #[.int .i64 0, .int .i64 0] (0, 0) _ rfl (by (with_reducible repeat (first | refine blk_drewN ?_ _ | refine blk_drew ?_ | refine blk_alloc ?_ _)); refine blk_put (cs := #[.int .i64 0, .int .i64 0]) ?_ 1 _ rfl; (with_reducible repeat (first | refine blk_drewN ?_ _ | refine blk_drew ?_ | refine blk_alloc ?_ _)); refine blk_put (cs := #[.int .i64 0, .int .i64 0]) ?_ 0 _ rfl; (with_reducible repeat (first | refine blk_drewN ?_ _ | refine blk_drew ?_ | refine blk_alloc ?_ _)); exact BK324.out) Try.underlying43 rfl (by kernel_rfl)) rfl ?_
                    exact ⟨by first | rfl | (simp [errW_none, errW_some] <;> rfl) | (simp [*, errW_none, errW_some] <;> rfl), by repeat (first | (with_reducible first | exact HB.out | apply below_alloc | apply pw_below_drewN | apply below_drew1 | refine below_set ?_ GE324.out) | exact HB.out)⟩
                  · rw [if_neg c20] at H
                    have c20b0 : ((Go.bits .and .u8 (rd (l0.drop (t325 : Int).toNat) 0) 1) == 1) = false := beq_eq_false_iff_ne.mpr c20
                    have c20b1 : ((Go.bits .and .u8 (rd (l0.drop (t325 : Int).toNat) 0) 1) != 1) = true := bne_iff_ne.mpr c20
                    by_cases c22 : ((l0.drop (t325 : Int).toNat).length : Int) = 1
                    · rw [if_pos c22] at H
                      have c22b0 : (((l0.drop (t325 : Int).toNat).length : Int) == 1) = true := beq_iff_eq.mpr c22
                      have c22b1 : (((l0.drop (t325 : Int).toNat).length : Int) != 1) = false := bne_eq_false_iff_eq.mpr c22
                      have c22b2 : (((l0.length - (t325 : Int).toNat : Nat) : Int) == 1) = true := by rw [← List.length_drop]; exact beq_iff_eq.mpr c22
                      have c22b3 : (((l0.length - (t325 : Int).toNat : Nat) : Int) != 1) = false := by rw [← List.length_drop]; exact bne_eq_false_iff_eq.mpr c22
                      clear c22
                      simp only [Option.some.injEq, Prod.mk.injEq] at H
                      obtain ⟨rfl, rfl, rfl⟩ := H
                      have p332 : 0 ≤ (0 : Int) := (by omega)
                      have q332 : 0 < ((l0.drop (t325 : Int).toNat).length : Int) := of_decide_eq_true (by first | (with_reducible assumption) | assumption)
                      obtain ⟨ad332, e332, hx332_0⟩ := Kd.at_int HR327.out 0 p332 q332
                      cases e332
                      have qi332 : (0 < (l0.drop (t325 : Int).toNat).length) = True := eq_true (by omega)
                      (try rw [show ((0 : Int)).toNat = 0 from rfl] at hx332_0)
                      (try rw [Addr.add_zero'] at hx332_0)
                      replace hx332_0 := (HB.out.cell (World.block_lt_of_cell? w _ hx332_0)).trans hx332_0
                      replace p332 := eq_true p332
                      replace q332 := eq_true q332
                      have hcz23_0 : wc.cell? ⟨gb324, 0, none⟩ = some (.int .i64 0) := (blk_cell BK324.out 0).trans rfl
                      have hcz23_1 : wc.cell? ⟨gb324, 1, none⟩ = some (.int .i64 0) := (blk_cell BK324.out 1).trans rfl
                      have hfz23_0 := blk_frozen BK324.out 0
                      have hfz23_1 := blk_frozen BK324.out 1
                      go_wp2
                      repeat (go_quiet (fail); try go_wp2)
                      refine bodyPost_ret (results_ct rfl _ _ gb324 43 #[.int .i64 0, .int .i64 0] (0, 0) _ rfl (by (with_reducible repeat (first | refine blk_drewN ?_ _ | refine blk_drew ?_ | refine blk_alloc ?_ _)); refine blk_put (cs := #[.int .i64 0, .int .i64 0]) ?_ 1 _ rfl; (with_reducible repeat (first | refine blk_drewN ?_ _ | refine blk_drew ?_ | refine blk_alloc ?_ _)); refine blk_put (cs := #[.int .i64 0, .int .i64 0]) ?_ 0 _ rfl; (with_reducible repeat (first | refine blk_drewN ?_ _ | refine blk_drew ?_ | refine blk_alloc ?_ _)); exact BK324.out) Try.underlying43 rfl (by kernel_rfl)) rfl ?_
                      exact ⟨by first | rfl | (simp [errW_none, errW_some] <;> rfl) | (simp [*, errW_none, errW_some] <;> rfl), by repeat (first | (with_reducible first | exact HB.out | apply below_alloc | apply pw_below_drewN | apply below_drew1 | refine below_set ?_ GE324.out) | exact HB.out)⟩
                    · rw [if_neg c22] at H
                      have c22b0 : (((l0.drop (t325 : Int).toNat).length : Int) == 1) = false := beq_eq_false_iff_ne.mpr c22
                      have c22b1 : (((l0.drop (t325 : Int).toNat).length : Int) != 1) = true := bne_iff_ne.mpr c22
                      have c22b2 : (((l0.length - (t325 : Int).toNat : Nat) : Int) == 1) = false := by rw [← List.length_drop]; exact beq_eq_false_iff_ne.mpr c22
                      have c22b3 : (((l0.length - (t325 : Int).toNat : Nat) : Int) != 1) = true := by rw [← List.length_drop]; exact bne_iff_ne.mpr c22
                      by_cases c24 : 1 < ((l0.drop (t325 : Int).toNat).length : Int)
                      · rw [if_pos c24] at H
                        have c24b0 : decide (1 < ((l0.drop (t325 : Int).toNat).length : Int)) = true := decide_eq_true c24
                        have c24b1 : decide (1 < (l0.drop (t325 : Int).toNat).length) = true := decide_eq_true (by omega)
                        have c24b2 : decide (1 < ((l0.length - (t325 : Int).toNat : Nat) : Int)) = true := by rw [← List.length_drop]; exact decide_eq_true c24
                        have c24b3 : (1 < ((l0.length - (t325 : Int).toNat : Nat) : Int)) = True := by rw [← List.length_drop]; exact eq_true (by first | exact of_decide_eq_true (decide_eq_true c24) | omega)
                        have c24b4 : decide (1 < (l0.length - (t325 : Int).toNat)) = true := by rw [← List.length_drop]; exact decide_eq_true (by omega)
                        have c24b5 : (1 < (l0.length - (t325 : Int).toNat)) = True := by rw [← List.length_drop]; exact eq_true (by first | exact of_decide_eq_true (decide_eq_true (by omega)) | omega)
                        clear c24
                        replace H := Option.bind_eq_some_iff.mp H
                        obtain ⟨t335, A250, H⟩ := H
                        replace H : (if t335 = true then (some (Go.bits .or .i64 (wrap64 ((wrap64 (rd (l0.drop (t325 : Int).toNat) 0)) * 256)) (wrap64 (rd (l0.drop (t325 : Int).toNat) 1)), wrap64 (t325 + 2), 0)) else (some (0, 0, 3))) = some (r1, r2, r3) := H
                        have A25 := Aside0.mk A250
                        clear A250
                        by_cases c26 : t335 = true
                        · subst c26
                          have H1 : (some (Go.bits .or .i64 (wrap64 ((wrap64 (rd (l0.drop (t325 : Int).toNat) 0)) * 256)) (wrap64 (rd (l0.drop (t325 : Int).toNat) 1)), wrap64 (t325 + 2), 0)) = some (r1, r2, r3) := by rw [if_pos rfl] at H; exact H
                          clear H
                          have H := H1
                          clear H1
                          simp only [Option.some.injEq, Prod.mk.injEq] at H
                          obtain ⟨rfl, rfl, rfl⟩ := H
                          have p332 : 0 ≤ (0 : Int) := (by omega)
                          have q332 : 0 < ((l0.drop (t325 : Int).toNat).length : Int) := of_decide_eq_true (by first | (with_reducible assumption) | assumption)
                          obtain ⟨ad332, e332, hx332_0⟩ := Kd.at_int HR327.out 0 p332 q332
                          cases e332
                          have qi332 : (0 < (l0.drop (t325 : Int).toNat).length) = True := eq_true (by omega)
                          (try rw [show ((0 : Int)).toNat = 0 from rfl] at hx332_0)
                          (try rw [Addr.add_zero'] at hx332_0)
                          replace hx332_0 := (HB.out.cell (World.block_lt_of_cell? w _ hx332_0)).trans hx332_0
                          replace p332 := eq_true p332
                          replace q332 := eq_true q332
                          have p333 : 0 ≤ (0 : Int) := (by omega)
                          have q333 : 0 < ((l0.drop (t325 : Int).toNat).length : Int) := of_decide_eq_true (by first | (with_reducible assumption) | assumption)
                          obtain ⟨ad333, e333, hx333_0⟩ := Kd.at_int HR327.out 0 p333 q333
                          obtain rfl : ad332 = ad333 := (by injection e333)
                          have qi333 : (0 < (l0.drop (t325 : Int).toNat).length) = True := eq_true (by omega)
                          (try rw [show ((0 : Int)).toNat = 0 from rfl] at hx333_0)
                          (try rw [Addr.add_zero'] at hx333_0)
                          replace hx333_0 := (HB.out.cell (World.block_lt_of_cell? w _ hx333_0)).trans hx333_0
                          replace p333 := eq_true p333
                          replace q333 := eq_true q333
                          have p334 : 0 ≤ (1 : Int) := (by omega)
                          have q334 : 1 < ((l0.drop (t325 : Int).toNat).length : Int) := of_decide_eq_true (by first | (with_reducible assumption) | assumption)
                          obtain ⟨ad334, e334, hx334_0⟩ := Kd.at_int HR327.out 1 p334 q334
                          obtain rfl : ad332 = ad334 := (by injection e334)
                          (try simp only [show (1 : Int).toNat = 1 from rfl, Nat.reduceMul, Nat.reduceEqDiff, Go.Addr.add, ↓reduceIte] at hx334_0)
                          have qi334 : (1 < (l0.drop (t325 : Int).toNat).length) = True := eq_true (by omega)
                          (try rw [show ((1 : Int)).toNat = 1 from rfl] at hx334_0)
                          replace hx334_0 := (HB.out.cell (World.block_lt_of_cell? w _ hx334_0)).trans hx334_0
                          replace p334 := eq_true p334
                          replace q334 := eq_true q334
                          go_wp2_with (first | (go_at_call 23; (with_reducible refine (head_May.calls (Go.bits .or .i64 (wrap64 ((wrap64 (rd (l0.drop (t325 : Int).toNat) 0)) * 256)) (wrap64 (rd (l0.drop (t325 : Int).toNat) 1))) true _ A25.out).mono ?_); rintro e w' ⟨rfl, ⟨nd, rfl⟩⟩; (try first | exact ⟨rfl, _, World.drewN_drewN _ _ _⟩ | exact ⟨rfl, _, Eq.trans (World.drewN_drewN _ _ _) (congrArg (World.drewN _) (Nat.add_assoc _ _ _))⟩); have hcz27_0 : wc.cell? ⟨gb324, 0, none⟩ = some (.int .i64 0) := (blk_cell BK324.out 0).trans rfl; have hcz27_1 : wc.cell? ⟨gb324, 1, none⟩ = some (.int .i64 0) := (blk_cell BK324.out 1).trans rfl; have hfz27_0 := blk_frozen BK324.out 0; have hfz27_1 := blk_frozen BK324.out 1))
                          repeat (go_quiet (first | (go_at_call 23; (with_reducible refine (head_May.calls (Go.bits .or .i64 (wrap64 ((wrap64 (rd (l0.drop (t325 : Int).toNat) 0)) * 256)) (wrap64 (rd (l0.drop (t325 : Int).toNat) 1))) true _ A25.out).mono ?_); rintro e w' ⟨rfl, ⟨nd, rfl⟩⟩; (try first | exact ⟨rfl, _, World.drewN_drewN _ _ _⟩ | exact ⟨rfl, _, Eq.trans (World.drewN_drewN _ _ _) (congrArg (World.drewN _) (Nat.add_assoc _ _ _))⟩); have hcz27_0 : wc.cell? ⟨gb324, 0, none⟩ = some (.int .i64 0) := (blk_cell BK324.out 0).trans rfl; have hcz27_1 : wc.cell? ⟨gb324, 1, none⟩ = some (.int .i64 0) := (blk_cell BK324.out 1).trans rfl; have hfz27_0 := blk_frozen BK324.out 0; have hfz27_1 := blk_frozen BK324.out 1)); try go_wp2_with (first | (go_at_call 23; (with_reducible refine (head_May.calls (Go.bits .or .i64 (wrap64 ((wrap64 (rd (l0.drop (t325 : Int).toNat) 0)) * 256)) (wrap64 (rd (l0.drop (t325 : Int).toNat) 1))) true _ A25.out).mono ?_); rintro e w' ⟨rfl, ⟨nd, rfl⟩⟩; (try first | exact ⟨rfl, _, World.drewN_drewN _ _ _⟩ | exact ⟨rfl, _, Eq.trans (World.drewN_drewN _ _ _) (congrArg (World.drewN _) (Nat.add_assoc _ _ _))⟩); have hcz27_0 : wc.cell? ⟨gb324, 0, none⟩ = some (.int .i64 0) := (blk_cell BK324.out 0).trans rfl; have hcz27_1 : wc.cell? ⟨gb324, 1, none⟩ = some (.int .i64 0) := (blk_cell BK324.out 1).trans rfl; have hfz27_0 := blk_frozen BK324.out 0; have hfz27_1 := blk_frozen BK324.out 1)))
                          refine bodyPost_ret (results_ct rfl _ _ gb324 43 #[.int .i64 (Go.bits .or .i64 (wrap64 ((wrap64 (rd (l0.drop (t325 : Int).toNat) 0)) * 256)) (wrap64 (rd (l0.drop (t325 : Int).toNat) 1))), .int .i64 (wrap64 (t325 + 2))] (0, 0) _ rfl (by (with_reducible repeat (first | refine blk_drewN ?_ _ | refine blk_drew ?_ | refine blk_alloc ?_ _)); refine blk_put (cs := #[.int .i64 (Go.bits .or .i64 (wrap64 ((wrap64 (rd (l0.drop (t325 : Int).toNat) 0)) * 256)) (wrap64 (rd (l0.drop (t325 : Int).toNat) 1))), .int .i64 0]) ?_ 1 _ rfl; (with_reducible repeat (first | refine blk_drewN ?_ _ | refine blk_drew ?_ | refine blk_alloc ?_ _)); refine blk_put (cs := #[.int .i64 0, .int .i64 0]) ?_ 0 _ rfl; (with_reducible repeat (first | refine blk_drewN ?_ _ | refine blk_drew ?_ | refine blk_alloc ?_ _)); exact BK324.out) Try.underlying43 rfl (by kernel_rfl)) rfl ?_
                          exact ⟨by first | rfl | (simp [errW_none, errW_some] <;> rfl) | (simp [*, errW_none, errW_some] <;> rfl), by repeat (first | (with_reducible first | exact HB.out | apply below_alloc | apply pw_below_drewN | apply below_drew1 | refine below_set ?_ GE324.out) | exact HB.out)⟩
                        · replace c26 := Bool.eq_false_iff.mpr c26
                          subst c26
                          have H1 : (some (0, 0, 3)) = some (r1, r2, r3) := by rw [if_neg (show ¬ (false = true) by decide)] at H; exact H
                          clear H
                          have H := H1
                          clear H1
                          simp only [Option.some.injEq, Prod.mk.injEq] at H
                          obtain ⟨rfl, rfl, rfl⟩ := H
                          have p332 : 0 ≤ (0 : Int) := (by omega)
                          have q332 : 0 < ((l0.drop (t325 : Int).toNat).length : Int) := of_decide_eq_true (by first | (with_reducible assumption) | assumption)
                          obtain ⟨ad332, e332, hx332_0⟩ := Kd.at_int HR327.out 0 p332 q332
                          cases e332
                          have qi332 : (0 < (l0.drop (t325 : Int).toNat).length) = True := eq_true (by omega)
                          (try rw [show ((0 : Int)).toNat = 0 from rfl] at hx332_0)
                          (try rw [Addr.add_zero'] at hx332_0)
                          replace hx332_0 := (HB.out.cell (World.block_lt_of_cell? w _ hx332_0)).trans hx332_0
                          replace p332 := eq_true p332
                          replace q332 := eq_true q332
                          have p333 : 0 ≤ (0 : Int) := (by omega)
                          have q333 : 0 < ((l0.drop (t325 : Int).toNat).length : Int) := of_decide_eq_true (by first | (with_reducible assumption) | assumption)
                          obtain ⟨ad333, e333, hx333_0⟩ := Kd.at_int HR327.out 0 p333 q333
                          obtain rfl : ad332 = ad333 := (by injection e333)
                          have qi333 : (0 < (l0.drop (t325 : Int).toNat).length) = True := eq_true (by omega)
                          (try rw [show ((0 : Int)).toNat = 0 from rfl] at hx333_0)
                          (try rw [Addr.add_zero'] at hx333_0)
                          replace hx333_0 := (HB.out.cell (World.block_lt_of_cell? w _ hx333_0)).trans hx333_0
                          replace p333 := eq_true p333
                          replace q333 := eq_true q333
                          have p334 : 0 ≤ (1 : Int) := (by omega)
                          have q334 : 1 < ((l0.drop (t325 : Int).toNat).length : Int) := of_decide_eq_true (by first | (with_reducible assumption) | assumption)
                          obtain ⟨ad334, e334, hx334_0⟩ := Kd.at_int HR327.out 1 p334 q334
                          obtain rfl : ad332 = ad334 := (by injection e334)
                          (try simp only [show (1 : Int).toNat = 1 from rfl, Nat.reduceMul, Nat.reduceEqDiff, Go.Addr.add, ↓reduceIte] at hx334_0)
                          have qi334 : (1 < (l0.drop (t325 : Int).toNat).length) = True := eq_true (by omega)
                          (try rw [show ((1 : Int)).toNat = 1 from rfl] at hx334_0)
                          replace hx334_0 := (HB.out.cell (World.block_lt_of_cell? w _ hx334_0)).trans hx334_0
                          replace p334 := eq_true p334
                          replace q334 := eq_true q334
                          go_wp2_with (first | (go_at_call 23; (with_reducible refine (head_May.calls (Go.bits .or .i64 (wrap64 ((wrap64 (rd (l0.drop (t325 : Int).toNat) 0)) * 256)) (wrap64 (rd (l0.drop (t325 : Int).toNat) 1))) false _ A25.out).mono ?_); rintro e w' ⟨rfl, ⟨nd, rfl⟩⟩; (try first | exact ⟨rfl, _, World.drewN_drewN _ _ _⟩ | exact ⟨rfl, _, Eq.trans (World.drewN_drewN _ _ _) (congrArg (World.drewN _) (Nat.add_assoc _ _ _))⟩); have hcz28_0 : wc.cell? ⟨gb324, 0, none⟩ = some (.int .i64 0) := (blk_cell BK324.out 0).trans rfl; have hcz28_1 : wc.cell? ⟨gb324, 1, none⟩ = some (.int .i64 0) := (blk_cell BK324.out 1).trans rfl; have hfz28_0 := blk_frozen BK324.out 0; have hfz28_1 := blk_frozen BK324.out 1))
                          repeat (go_quiet (first | (go_at_call 23; (with_reducible refine (head_May.calls (Go.bits .or .i64 (wrap64 ((wrap64 (rd (l0.drop (t325 : Int).toNat) 0)) * 256)) (wrap64 (rd (l0.drop (t325 : Int).toNat) 1))) false _ A25.out).mono ?_); rintro e w' ⟨rfl, ⟨nd, rfl⟩⟩; (try first | exact ⟨rfl, _, World.drewN_drewN _ _ _⟩ | exact ⟨rfl, _, Eq.trans (World.drewN_drewN _ _ _) (congrArg (World.drewN _) (Nat.add_assoc _ _ _))⟩); have hcz28_0 : wc.cell? ⟨gb324, 0, none⟩ = some (.int .i64 0) := (blk_cell BK324.out 0).trans rfl; have hcz28_1 : wc.cell? ⟨gb324, 1, none⟩ = some (.int .i64 0) := (blk_cell BK324.out 1).trans rfl; have hfz28_0 := blk_frozen BK324.out 0; have hfz28_1 := blk_frozen BK324.out 1)); try go_wp2_with (first | (go_at_call 23; (with_reducible refine (head_May.calls (Go.bits .or .i64 (wrap64 ((wrap64 (rd (l0.drop (t325 : Int).toNat) 0)) * 256)) (wrap64 (rd (l0.drop (t325 : Int).toNat) 1))) false _ A25.out).mono ?_); rintro e w' ⟨rfl, ⟨nd, rfl⟩⟩; (try first | exact ⟨rfl, _, World.drewN_drewN _ _ _⟩ | exact ⟨rfl, _, Eq.trans (World.drewN_drewN _ _ _) (congrArg (World.drewN _) (Nat.add_assoc _ _ _))⟩); have hcz28_0 : wc.cell? ⟨gb324, 0, none⟩ = some (.int .i64 0) := (blk_cell BK324.out 0).trans rfl; have hcz28_1 : wc.cell? ⟨gb324, 1, none⟩ = some (.int .i64 0) := (blk_cell BK324.out 1).trans rfl; have hfz28_0 := blk_frozen BK324.out 0; have hfz28_1 := blk_frozen BK324.out 1)))
                          refine bodyPost_ret (results_ct rfl _ _ gb324 43 #[.int .i64 0, .int .i64 0] (0, 0) _ rfl (by (with_reducible repeat (first | refine blk_drewN ?_ _ | refine blk_drew ?_ | refine blk_alloc ?_ _)); refine blk_put (cs := #[.int .i64 0, .int .i64 0]) ?_ 1 _ rfl; (with_reducible repeat (first | refine blk_drewN ?_ _ | refine blk_drew ?_ | refine blk_alloc ?_ _)); refine blk_put (cs := #[.int .i64 0, .int .i64 0]) ?_ 0 _ rfl; (with_reducible repeat (first | refine blk_drewN ?_ _ | refine blk_drew ?_ | refine blk_alloc ?_ _)); exact BK324.out) Try.underlying43 rfl (by kernel_rfl)) rfl ?_
                          exact ⟨by first | rfl | (simp [errW_none, errW_some] <;> rfl) | (simp [*, errW_none, errW_some] <;> rfl), by repeat (first | (with_reducible first | exact HB.out | apply below_alloc | apply pw_below_drewN | apply below_drew1 | refine below_set ?_ GE324.out) | exact HB.out)⟩
                      · rw [if_neg c24] at H
                        exact absurd H (by simp)
                · rw [if_neg c19] at H
                  exact absurd H (by simp)
      · rw [if_neg c5] at H
        exact absurd H (by simp)
    · rw [if_neg c4] at H
      exact absurd H (by simp)
  · rw [if_neg c3] at H
    have c3b0 : (t326 == 0) = false := beq_eq_false_iff_ne.mpr c3
    have c3b1 : (t326 != 0) = true := bne_iff_ne.mpr c3
    simp only [Option.some.injEq, Prod.mk.injEq] at H
    obtain ⟨rfl, rfl, rfl⟩ := H
    go_enter Try.func25, Try.ntmps25
    go_wp2_with (first | ((with_reducible refine gate_dst (N := 2) rfl ?_); refine box_event ?hg (N := 2) ?hd (cs := #[.int .i64 0, .int .i64 0]) (t := 43) ?hr ?_; (case hd => rfl); (case hg => rfl); (case hr => first | (go_simp; done) | (go_simp; rfl)); intro gb324 hg w29 hbox hb; have n0_ := Aside0.mk (below_step (by repeat (first | (with_reducible first | exact HB.out | apply below_alloc | apply pw_below_drewN | apply below_drew1) | exact HB.out)) hb); have n1_ := Aside0.mk (hbox); have n2_ := Aside0.mk ((by rw [hg]; exact (below_size (by repeat (first | (with_reducible first | exact HB.out | apply below_alloc | apply pw_below_drewN | apply below_drew1) | exact HB.out))) : w.heap.size ≤ gb324)); have n3_ := Aside0.mk ((by rw [hg]; exact (below_size (by repeat (first | (with_reducible first | exact HB.out | apply below_alloc | apply pw_below_drewN | apply below_drew1) | exact HB.out))) : w.heap.size ≤ gb324)); clear HB; have HB := n0_; have BK324 := n1_; have GW324 := n2_; have GE324 := n3_; clear n0_ n1_ n2_ n3_; clear hb hbox hg) | (go_at_call 33; (with_reducible refine (head_begin.calls _ _ l0 t325 t326 _ ?side1 ?side2 A2.out).mono ?_); (case side1 => repeat (first | exact (Kd.C_below HR0.out HB.out) | (with_reducible refine Kd.C_alloc ?_ _) | (with_reducible refine Kd.C_drewN ?_ _) | (with_reducible refine Kd.C_drew ?_))); (case side2 => exact HC0.out); rintro e w' ⟨rfl, ⟨nd, rfl⟩⟩; (try first | exact ⟨rfl, _, World.drewN_drewN _ _ _⟩ | exact ⟨rfl, _, Eq.trans (World.drewN_drewN _ _ _) (congrArg (World.drewN _) (Nat.add_assoc _ _ _))⟩); have hcz30_0 : w29.cell? ⟨gb324, 0, none⟩ = some (.int .i64 0) := (blk_cell BK324.out 0).trans rfl; have hcz30_1 : w29.cell? ⟨gb324, 1, none⟩ = some (.int .i64 0) := (blk_cell BK324.out 1).trans rfl; have hfz30_0 := blk_frozen BK324.out 0; have hfz30_1 := blk_frozen BK324.out 1))
    repeat (go_quiet (first | ((with_reducible refine gate_dst (N := 2) rfl ?_); refine box_event ?hg (N := 2) ?hd (cs := #[.int .i64 0, .int .i64 0]) (t := 43) ?hr ?_; (case hd => rfl); (case hg => rfl); (case hr => first | (go_simp; done) | (go_simp; rfl)); intro gb324 hg w29 hbox hb; have n0_ := Aside0.mk (below_step (by repeat (first | (with_reducible first | exact HB.out | apply below_alloc | apply pw_below_drewN | apply below_drew1) | exact HB.out)) hb); have n1_ := Aside0.mk (hbox); have n2_ := Aside0.mk ((by rw [hg]; exact (below_size (by repeat (first | (with_reducible first | exact HB.out | apply below_alloc | apply pw_below_drewN | apply below_drew1) | exact HB.out))) : w.heap.size ≤ gb324)); have n3_ := Aside0.mk ((by rw [hg]; exact (below_size (by repeat (first | (with_reducible first | exact HB.out | apply below_alloc | apply pw_below_drewN | apply below_drew1) | exact HB.out))) : w.heap.size ≤ gb324)); clear HB; have HB := n0_; have BK324 := n1_; have GW324 := n2_; have GE324 := n3_; clear n0_ n1_ n2_ n3_; clear hb hbox hg) | (go_at_call 33; (with_reducible refine (head_begin.calls _ _ l0 t325 t326 _ ?side1 ?side2 A2.out).mono ?_); (case side1 => repeat (first | exact (Kd.C_below HR0.out HB.out) | (with_reducible refine Kd.C_alloc ?_ _) | (with_reducible refine Kd.C_drewN ?_ _) | (with_reducible refine Kd.C_drew ?_))); (case side2 => exact HC0.out); rintro e w' ⟨rfl, ⟨nd, rfl⟩⟩; (try first | exact ⟨rfl, _, World.drewN_drewN _ _ _⟩ | exact ⟨rfl, _, Eq.trans (World.drewN_drewN _ _ _) (congrArg (World.drewN _) (Nat.add_assoc _ _ _))⟩); have hcz30_0 : w29.cell? ⟨gb324, 0, none⟩ = some (.int .i64 0) := (blk_cell BK324.out 0).trans rfl; have hcz30_1 : w29.cell? ⟨gb324, 1, none⟩ = some (.int .i64 0) := (blk_cell BK324.out 1).trans rfl; have hfz30_0 := blk_frozen BK324.out 0; have hfz30_1 := blk_frozen BK324.out 1)); try go_wp2_with (first | ((with_reducible refine gate_dst (N := 2) rfl ?_); refine box_event ?hg (N := 2) ?hd (cs := #[.int .i64 0, .int .i64 0]) (t := 43) ?hr ?_; (case hd => rfl); (case hg => rfl); (case hr => first | (go_simp; done) | (go_simp; rfl)); intro gb324 hg w29 hbox hb; have n0_ := Aside0.mk (below_step (by repeat (first | (with_reducible first | exact HB.out | apply below_alloc | apply pw_below_drewN | apply below_drew1) | exact HB.out)) hb); have n1_ := Aside0.mk (hbox); have n2_ := Aside0.mk ((by rw [hg]; exact (below_size (by repeat (first | (with_reducible first | exact HB.out | apply below_alloc | apply pw_below_drewN | apply below_drew1) | exact HB.out))) : w.heap.size ≤ gb324)); have n3_ := Aside0.mk ((by rw [hg]; exact (below_size (by repeat (first | (with_reducible first | exact HB.out | apply below_alloc | apply pw_below_drewN | apply below_drew1) | exact HB.out))) : w.heap.size ≤ gb324)); clear HB; have HB := n0_; have BK324 := n1_; have GW324 := n2_; have GE324 := n3_; clear n0_ n1_ n2_ n3_; clear hb hbox hg) | (go_at_call 33; (with_reducible refine (head_begin.calls _ _ l0 t325 t326 _ ?side1 ?side2 A2.out).mono ?_); (case side1 => repeat (first | exact (Kd.C_below HR0.out HB.out) | (with_reducible refine Kd.C_alloc ?_ _) | (with_reducible refine Kd.C_drewN ?_ _) | (with_reducible refine Kd.C_drew ?_))); (case side2 => exact HC0.out); rintro e w' ⟨rfl, ⟨nd, rfl⟩⟩; (try first | exact ⟨rfl, _, World.drewN_drewN _ _ _⟩ | exact ⟨rfl, _, Eq.trans (World.drewN_drewN _ _ _) (congrArg (World.drewN _) (Nat.add_assoc _ _ _))⟩); have hcz30_0 : w29.cell? ⟨gb324, 0, none⟩ = some (.int .i64 0) := (blk_cell BK324.out 0).trans rfl; have hcz30_1 : w29.cell? ⟨gb324, 1, none⟩ = some (.int .i64 0) := (blk_cell BK324.out 1).trans rfl; have hfz30_0 := blk_frozen BK324.out 0; have hfz30_1 := blk_frozen BK324.out 1)))
    refine bodyPost_ret (results_ct rfl _ _ gb324 43 #[.int .i64 0, .int .i64 0] (0, 0) _ rfl (by (with_reducible repeat (first | refine blk_drewN ?_ _ | refine blk_drew ?_ | refine blk_alloc ?_ _)); refine blk_put (cs := #[.int .i64 0, .int .i64 0]) ?_ 1 _ rfl; (with_reducible repeat (first | refine blk_drewN ?_ _ | refine blk_drew ?_ | refine blk_alloc ?_ _)); refine blk_put (cs := #[.int .i64 0, .int .i64 0]) ?_ 0 _ rfl; (with_reducible repeat (first | refine blk_drewN ?_ _ | refine blk_drew ?_ | refine blk_alloc ?_ _)); exact BK324.out) Try.underlying43 rfl (by kernel_rfl)) rfl ?_
    exact ⟨by first | rfl | (simp [errW_none, errW_some] <;> rfl) | (simp [*, errW_none, errW_some] <;> rfl), by repeat (first | (with_reducible first | exact HB.out | apply below_alloc | apply pw_below_drewN | apply below_drew1 | refine below_set ?_ GE324.out) | exact HB.out)⟩

end Go.Proofs.Ytjpfhipgffmgjaa.Print
