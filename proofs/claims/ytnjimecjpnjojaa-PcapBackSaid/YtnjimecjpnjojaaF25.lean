-- laid by this session's own program (wip/mkprint.sh) for this claim
import Derived.Test.Ytnjimecjpnjojaa0
import Derived.Test.YtnjimecjpnjojaaF51
namespace Go.Proofs.Ytnjimecjpnjojaa.Print
open Go.RowKit Go.Proofs.YtnjimecjpnjojaaW.PrintWords Go.Proofs.YtnjimecjpnjojaaW.PrintLast Go.Proofs.YtnjimecjpnjojaaW.PrintMore
attribute [local go_sem] max2_int min2_int max_two min_two max_three min_three max_four min_four   -- for this text's walks alone
set_option linter.unusedVariables false
set_option linter.unusedSimpArgs false

/-! ### umpireref09_Next: function 25 -/
def umpireref09_Next.f (k : Nat) (l0 : List Int) (a1 : Bool) : Option (Int × Int × Int × List Int × Int × Int) := if (l0.length : Int) < 16 then (some (0, 0, 0, ([] : List Int), 0, 2)) else ((umpireref09_num.f k l0 8 a1).bind fun t336 => (if (wrap64 (t336)) > 131072 then (some (0, 0, 0, ([] : List Int), 0, 4)) else (if (l0.length : Int) < (wrap64 (16 + (wrap64 (t336)))) then (some (0, 0, 0, ([] : List Int), 0, 2)) else ((umpireref09_num.f k l0 0 a1).bind fun t337 => ((umpireref09_num.f k l0 4 a1).bind fun t338 => ((umpireref09_num.f k l0 12 a1).bind fun t339 => (if 16 ≤ (wrap64 (16 + (wrap64 (t336)))) then (if (wrap64 (16 + (wrap64 (t336)))) ≤ (l0.length : Int) then (if ([] : List Int).length + ((l0.take ((wrap64 (16 + (wrap64 (t336)))) : Int).toNat).drop 16).length < 140737488355328 then (some (t337, t338, t339, (([] : List Int) ++ ((l0.take ((wrap64 (16 + (wrap64 (t336)))) : Int).toNat).drop 16)), wrap64 (16 + (wrap64 (t336))), 0)) else (none)) else (none)) else (none))))))))
theorem umpireref09_Next.mono : ∀ a0 a1 k, LeO (umpireref09_Next.f k a0 a1) (umpireref09_Next.f (k + 1) a0 a1) := by
  intro a0 a1 k
  unfold umpireref09_Next.f
  repeat' first | (with_reducible exact umpireref09_num.mono _ _ _ _) | (with_reducible exact LeO.refl _) | (with_reducible refine LeO.ite ?_ ?_) | (with_reducible refine LeO.bind ?_ (fun _ => ?_))
def umpireref09_Next.T9 : Bool × List (List Nat × List Nat) := (true, [([], []), ([0], [0]), ([], []), ([], []), ([3], [3]), ([2, 4], [2, 4]), ([1, 5], [1, 5]), ([0, 1, 2, 3, 4, 5, 6], []), ([7, 6, 6, 0, 1, 2, 3, 4, 5, 6], [6, 7])])
def umpireref09_Next.B9 : List Nat := [0, 1, 0, 0, 8, 28, 63, 127, 255]
theorem umpireref09_Next.tab9 : rtab .any (opsOf Try.f25 9) = umpireref09_Next.T9 := by kernel_rfl
theorem umpireref09_Next.bits9 : waitsOk umpireref09_Next.T9.2 umpireref09_Next.B9 = true := by kernel_rfl
set_option maxHeartbeats 8000000 in
set_option maxRecDepth 100000 in
theorem umpireref09_Next.calls (k : Nat) (A0 : Option Addr) (c0 : Nat) (l0 : List Int) (a1 : Bool) (r1 : Int) (r2 : Int) (r3 : Int) (r4 : List Int) (r5 : Int) (r6 : Int) (w : World) (hr0 : Kd.C (Kd.int .u8) w A0 l0.length l0) (hc0 : l0.length ≤ c0) (h : umpireref09_Next.f k l0 a1 = some (r1, r2, r3, r4, r5, r6)) :
    Calls Try.prog 25 #[.slice A0 l0.length c0, .bool a1] w fun e w' => ∃ v3_ : Value, e = .returned (.tuple #[.agg #[.int .u32 r1, .int .u32 r2, .int .u32 r3, v3_], .int .i64 r5, .int .i64 r6]) ∧ Kd.R (Kd.int .u8) 5 w' w.heap.size (fun _ => True) v3_ r4 ∧ Below w.heap.size w w' := by
  have hu46 := Try.underlying46
  have HR0 := Aside0.mk hr0
  have HC0 := Aside0.mk hc0
  clear hr0 hc0
  have HB := Aside0.mk (Below.refl w.heap.size w)
  have H : (if (l0.length : Int) < 16 then (some (0, 0, 0, ([] : List Int), 0, 2)) else ((umpireref09_num.f k l0 8 a1).bind fun t336 => (if (wrap64 (t336)) > 131072 then (some (0, 0, 0, ([] : List Int), 0, 4)) else (if (l0.length : Int) < (wrap64 (16 + (wrap64 (t336)))) then (some (0, 0, 0, ([] : List Int), 0, 2)) else ((umpireref09_num.f k l0 0 a1).bind fun t337 => ((umpireref09_num.f k l0 4 a1).bind fun t338 => ((umpireref09_num.f k l0 12 a1).bind fun t339 => (if 16 ≤ (wrap64 (16 + (wrap64 (t336)))) then (if (wrap64 (16 + (wrap64 (t336)))) ≤ (l0.length : Int) then (if ([] : List Int).length + ((l0.take ((wrap64 (16 + (wrap64 (t336)))) : Int).toNat).drop 16).length < 140737488355328 then (some (t337, t338, t339, (([] : List Int) ++ ((l0.take ((wrap64 (16 + (wrap64 (t336)))) : Int).toNat).drop 16)), wrap64 (16 + (wrap64 (t336))), 0)) else (none)) else (none)) else (none))))))))) = some (r1, r2, r3, r4, r5, r6) := h
  clear h
  by_cases c3 : (l0.length : Int) < 16
  · rw [if_pos c3] at H
    have c3b0 : decide ((l0.length : Int) < 16) = true := decide_eq_true c3
    have c3b1 : decide (l0.length < 16) = true := decide_eq_true (by omega)
    clear c3
    simp only [Option.some.injEq, Prod.mk.injEq] at H
    obtain ⟨rfl, rfl, rfl, rfl, rfl, rfl⟩ := H
    go_enter Try.func25, Try.ntmps25
    go_wp2_with (first | ((with_reducible refine gate_dst (N := 4) rfl ?_); refine box_event ?hg (N := 4) ?hd (cs := #[.int .u32 0, .int .u32 0, .int .u32 0, .slice none 0 0]) (t := 46) ?hr ?_; (case hd => rfl); (case hg => rfl); (case hr => (go_simp; done)); intro gb335 hg w4 hbox hb; have n0_ := Aside0.mk (below_step (by exact HB.out) hb); have n1_ := Aside0.mk (hbox); have n2_ := Aside0.mk ((by rw [hg]; exact (below_size (by exact HB.out)) : w.heap.size ≤ gb335)); have n3_ := Aside0.mk ((by rw [hg]; exact (below_size (by exact HB.out)) : w.heap.size ≤ gb335)); clear HB; have HB := n0_; have BK335 := n1_; have GW335 := n2_; have GE335 := n3_; clear n0_ n1_ n2_ n3_; clear hb hbox hg; have hcz5_0 : w4.cell? ⟨gb335, 0, none⟩ = some (.int .u32 0) := (blk_cell BK335.out 0).trans rfl; have hcz5_1 : w4.cell? ⟨gb335, 1, none⟩ = some (.int .u32 0) := (blk_cell BK335.out 1).trans rfl; have hcz5_2 : w4.cell? ⟨gb335, 2, none⟩ = some (.int .u32 0) := (blk_cell BK335.out 2).trans rfl; have hcz5_3 : w4.cell? ⟨gb335, 3, none⟩ = some (.slice none 0 0) := (blk_cell BK335.out 3).trans rfl; have hfz5_0 := blk_frozen BK335.out 0; have hfz5_1 := blk_frozen BK335.out 1; have hfz5_2 := blk_frozen BK335.out 2; have hfz5_3 := blk_frozen BK335.out 3))
    refine bodyPost_ret (results_ctt rfl _ _ gb335 46 #[.int .u32 0, .int .u32 0, .int .u32 0, .slice none 0 0] (0, 0) _ rfl (by refine blk_put (cs := #[.int .u32 0, .int .u32 0, .int .u32 0, .slice none 0 0]) ?_ 3 _ rfl; refine blk_put (cs := #[.int .u32 0, .int .u32 0, .int .u32 0, .slice none 0 0]) ?_ 2 _ rfl; refine blk_put (cs := #[.int .u32 0, .int .u32 0, .int .u32 0, .slice none 0 0]) ?_ 1 _ rfl; refine blk_put (cs := #[.int .u32 0, .int .u32 0, .int .u32 0, .slice none 0 0]) ?_ 0 _ rfl; exact BK335.out) Try.underlying46 rfl (by kernel_rfl)) rfl ?_
    exact ⟨_, by (rfl), by (exact Kd.R_nil _ _ _ _ _), by repeat (with_reducible first | exact HB.out | refine below_set ?_ GE335.out)⟩
  · rw [if_neg c3] at H
    have c3b0 : decide ((l0.length : Int) < 16) = false := decide_eq_false c3
    have c3b1 : decide (l0.length < 16) = false := decide_eq_false (by omega)
    clear c3
    replace H := Option.bind_eq_some_iff.mp H
    obtain ⟨t336, A60, H⟩ := H
    replace H : (if (wrap64 (t336)) > 131072 then (some (0, 0, 0, ([] : List Int), 0, 4)) else (if (l0.length : Int) < (wrap64 (16 + (wrap64 (t336)))) then (some (0, 0, 0, ([] : List Int), 0, 2)) else ((umpireref09_num.f k l0 0 a1).bind fun t337 => ((umpireref09_num.f k l0 4 a1).bind fun t338 => ((umpireref09_num.f k l0 12 a1).bind fun t339 => (if 16 ≤ (wrap64 (16 + (wrap64 (t336)))) then (if (wrap64 (16 + (wrap64 (t336)))) ≤ (l0.length : Int) then (if ([] : List Int).length + ((l0.take ((wrap64 (16 + (wrap64 (t336)))) : Int).toNat).drop 16).length < 140737488355328 then (some (t337, t338, t339, (([] : List Int) ++ ((l0.take ((wrap64 (16 + (wrap64 (t336)))) : Int).toNat).drop 16)), wrap64 (16 + (wrap64 (t336))), 0)) else (none)) else (none)) else (none))))))) = some (r1, r2, r3, r4, r5, r6) := H
    have A6 := Aside0.mk A60
    clear A60
    by_cases c7 : (wrap64 (t336)) > 131072
    · rw [if_pos c7] at H
      have c7b0 : decide (131072 < (wrap64 (t336))) = true := decide_eq_true c7
      clear c7
      simp only [Option.some.injEq, Prod.mk.injEq] at H
      obtain ⟨rfl, rfl, rfl, rfl, rfl, rfl⟩ := H
      go_enter Try.func25, Try.ntmps25
      go_wp2_with (first | ((with_reducible refine gate_dst (N := 4) rfl ?_); refine box_event ?hg (N := 4) ?hd (cs := #[.int .u32 0, .int .u32 0, .int .u32 0, .slice none 0 0]) (t := 46) ?hr ?_; (case hd => rfl); (case hg => rfl); (case hr => (go_simp; done)); intro gb335 hg w8 hbox hb; have n0_ := Aside0.mk (below_step (by exact HB.out) hb); have n1_ := Aside0.mk (hbox); have n2_ := Aside0.mk ((by rw [hg]; exact (below_size (by exact HB.out)) : w.heap.size ≤ gb335)); have n3_ := Aside0.mk ((by rw [hg]; exact (below_size (by exact HB.out)) : w.heap.size ≤ gb335)); clear HB; have HB := n0_; have BK335 := n1_; have GW335 := n2_; have GE335 := n3_; clear n0_ n1_ n2_ n3_; clear hb hbox hg) | ((with_reducible refine gate_callee (f := 51) rfl ?_); refine goesL_ (some 15) rfl rfl Try.func51 (by kernel_rfl) rfl #[.slice A0 l0.length c0, .int .i64 8, .bool a1] rfl (by (try simp only [List.map_toArray, List.map_cons, List.map_nil]); (rfl)) ?_; (with_reducible refine (umpireref09_num.calls k _ _ l0 8 a1 t336 _ ?side1 ?side2 A6.out).mono ?_); (case side1 => exact (Kd.C_below HR0.out HB.out)); (case side2 => exact HC0.out); rintro e w' ⟨rfl, ⟨nd, rfl⟩⟩; refine ⟨_, rfl, ?_⟩; (try (rw [drewN_self w8]; generalize hq_ : World.drewN w8 _ = w8; have n0_ : Aside0 (w8.heap[gb335]? = some (.cells #[.int .u32 0, .int .u32 0, .int .u32 0, .slice none 0 0] 46 (0, 0))) := ⟨by rw [← hq_]; exact (by (with_reducible repeat (refine blk_drewN ?_ _)); exact BK335.out)⟩; have n1_ : Aside0 (Below w.heap.size w w8) := ⟨by rw [← hq_]; exact (by repeat (with_reducible first | exact HB.out | apply pw_below_drewN))⟩; clear BK335 HB hq_; have BK335 := n0_; have HB := n1_; clear n0_ n1_)); have hcz9_0 : w8.cell? ⟨gb335, 0, none⟩ = some (.int .u32 0) := (blk_cell BK335.out 0).trans rfl; have hcz9_1 : w8.cell? ⟨gb335, 1, none⟩ = some (.int .u32 0) := (blk_cell BK335.out 1).trans rfl; have hcz9_2 : w8.cell? ⟨gb335, 2, none⟩ = some (.int .u32 0) := (blk_cell BK335.out 2).trans rfl; have hcz9_3 : w8.cell? ⟨gb335, 3, none⟩ = some (.slice none 0 0) := (blk_cell BK335.out 3).trans rfl; have hfz9_0 := blk_frozen BK335.out 0; have hfz9_1 := blk_frozen BK335.out 1; have hfz9_2 := blk_frozen BK335.out 2; have hfz9_3 := blk_frozen BK335.out 3))
      refine bodyPost_ret (results_ctt rfl _ _ gb335 46 #[.int .u32 0, .int .u32 0, .int .u32 0, .slice none 0 0] (0, 0) _ rfl (by refine blk_put (cs := #[.int .u32 0, .int .u32 0, .int .u32 0, .slice none 0 0]) ?_ 3 _ rfl; refine blk_put (cs := #[.int .u32 0, .int .u32 0, .int .u32 0, .slice none 0 0]) ?_ 2 _ rfl; refine blk_put (cs := #[.int .u32 0, .int .u32 0, .int .u32 0, .slice none 0 0]) ?_ 1 _ rfl; refine blk_put (cs := #[.int .u32 0, .int .u32 0, .int .u32 0, .slice none 0 0]) ?_ 0 _ rfl; exact BK335.out) Try.underlying46 rfl (by kernel_rfl)) rfl ?_
      exact ⟨_, by (rfl), by (exact Kd.R_nil _ _ _ _ _), by repeat (with_reducible first | exact HB.out | refine below_set ?_ GE335.out)⟩
    · rw [if_neg c7] at H
      have c7b0 : decide (131072 < (wrap64 (t336))) = false := decide_eq_false c7
      clear c7
      by_cases c10 : (l0.length : Int) < (wrap64 (16 + (wrap64 (t336))))
      · rw [if_pos c10] at H
        have c10b0 : decide ((l0.length : Int) < (wrap64 (16 + (wrap64 (t336))))) = true := decide_eq_true c10
        clear c10
        simp only [Option.some.injEq, Prod.mk.injEq] at H
        obtain ⟨rfl, rfl, rfl, rfl, rfl, rfl⟩ := H
        go_enter Try.func25, Try.ntmps25
        go_wp2_with (first | ((with_reducible refine gate_dst (N := 4) rfl ?_); refine box_event ?hg (N := 4) ?hd (cs := #[.int .u32 0, .int .u32 0, .int .u32 0, .slice none 0 0]) (t := 46) ?hr ?_; (case hd => rfl); (case hg => rfl); (case hr => (go_simp; done)); intro gb335 hg w11 hbox hb; have n0_ := Aside0.mk (below_step (by exact HB.out) hb); have n1_ := Aside0.mk (hbox); have n2_ := Aside0.mk ((by rw [hg]; exact (below_size (by exact HB.out)) : w.heap.size ≤ gb335)); have n3_ := Aside0.mk ((by rw [hg]; exact (below_size (by exact HB.out)) : w.heap.size ≤ gb335)); clear HB; have HB := n0_; have BK335 := n1_; have GW335 := n2_; have GE335 := n3_; clear n0_ n1_ n2_ n3_; clear hb hbox hg) | ((with_reducible refine gate_callee (f := 51) rfl ?_); refine goesL_ (some 15) rfl rfl Try.func51 (by kernel_rfl) rfl #[.slice A0 l0.length c0, .int .i64 8, .bool a1] rfl (by (try simp only [List.map_toArray, List.map_cons, List.map_nil]); (rfl)) ?_; (with_reducible refine (umpireref09_num.calls k _ _ l0 8 a1 t336 _ ?side1 ?side2 A6.out).mono ?_); (case side1 => exact (Kd.C_below HR0.out HB.out)); (case side2 => exact HC0.out); rintro e w' ⟨rfl, ⟨nd, rfl⟩⟩; refine ⟨_, rfl, ?_⟩; (try (rw [drewN_self w11]; generalize hq_ : World.drewN w11 _ = w11; have n0_ : Aside0 (w11.heap[gb335]? = some (.cells #[.int .u32 0, .int .u32 0, .int .u32 0, .slice none 0 0] 46 (0, 0))) := ⟨by rw [← hq_]; exact (by (with_reducible repeat (refine blk_drewN ?_ _)); exact BK335.out)⟩; have n1_ : Aside0 (Below w.heap.size w w11) := ⟨by rw [← hq_]; exact (by repeat (with_reducible first | exact HB.out | apply pw_below_drewN))⟩; clear BK335 HB hq_; have BK335 := n0_; have HB := n1_; clear n0_ n1_)); have hcz12_0 : w11.cell? ⟨gb335, 0, none⟩ = some (.int .u32 0) := (blk_cell BK335.out 0).trans rfl; have hcz12_1 : w11.cell? ⟨gb335, 1, none⟩ = some (.int .u32 0) := (blk_cell BK335.out 1).trans rfl; have hcz12_2 : w11.cell? ⟨gb335, 2, none⟩ = some (.int .u32 0) := (blk_cell BK335.out 2).trans rfl; have hcz12_3 : w11.cell? ⟨gb335, 3, none⟩ = some (.slice none 0 0) := (blk_cell BK335.out 3).trans rfl; have hfz12_0 := blk_frozen BK335.out 0; have hfz12_1 := blk_frozen BK335.out 1; have hfz12_2 := blk_frozen BK335.out 2; have hfz12_3 := blk_frozen BK335.out 3))
        refine bodyPost_ret (results_ctt rfl _ _ gb335 46 #[.int .u32 0, .int .u32 0, .int .u32 0, .slice none 0 0] (0, 0) _ rfl (by refine blk_put (cs := #[.int .u32 0, .int .u32 0, .int .u32 0, .slice none 0 0]) ?_ 3 _ rfl; refine blk_put (cs := #[.int .u32 0, .int .u32 0, .int .u32 0, .slice none 0 0]) ?_ 2 _ rfl; refine blk_put (cs := #[.int .u32 0, .int .u32 0, .int .u32 0, .slice none 0 0]) ?_ 1 _ rfl; refine blk_put (cs := #[.int .u32 0, .int .u32 0, .int .u32 0, .slice none 0 0]) ?_ 0 _ rfl; exact BK335.out) Try.underlying46 rfl (by kernel_rfl)) rfl ?_
        exact ⟨_, by (rfl), by (exact Kd.R_nil _ _ _ _ _), by repeat (with_reducible first | exact HB.out | refine below_set ?_ GE335.out)⟩
      · rw [if_neg c10] at H
        have c10b0 : decide ((l0.length : Int) < (wrap64 (16 + (wrap64 (t336))))) = false := decide_eq_false c10
        clear c10
        replace H := Option.bind_eq_some_iff.mp H
        obtain ⟨t337, A130, H⟩ := H
        replace H : ((umpireref09_num.f k l0 4 a1).bind fun t338 => ((umpireref09_num.f k l0 12 a1).bind fun t339 => (if 16 ≤ (wrap64 (16 + (wrap64 (t336)))) then (if (wrap64 (16 + (wrap64 (t336)))) ≤ (l0.length : Int) then (if ([] : List Int).length + ((l0.take ((wrap64 (16 + (wrap64 (t336)))) : Int).toNat).drop 16).length < 140737488355328 then (some (t337, t338, t339, (([] : List Int) ++ ((l0.take ((wrap64 (16 + (wrap64 (t336)))) : Int).toNat).drop 16)), wrap64 (16 + (wrap64 (t336))), 0)) else (none)) else (none)) else (none)))) = some (r1, r2, r3, r4, r5, r6) := H
        have A13 := Aside0.mk A130
        clear A130
        replace H := Option.bind_eq_some_iff.mp H
        obtain ⟨t338, A140, H⟩ := H
        replace H : ((umpireref09_num.f k l0 12 a1).bind fun t339 => (if 16 ≤ (wrap64 (16 + (wrap64 (t336)))) then (if (wrap64 (16 + (wrap64 (t336)))) ≤ (l0.length : Int) then (if ([] : List Int).length + ((l0.take ((wrap64 (16 + (wrap64 (t336)))) : Int).toNat).drop 16).length < 140737488355328 then (some (t337, t338, t339, (([] : List Int) ++ ((l0.take ((wrap64 (16 + (wrap64 (t336)))) : Int).toNat).drop 16)), wrap64 (16 + (wrap64 (t336))), 0)) else (none)) else (none)) else (none))) = some (r1, r2, r3, r4, r5, r6) := H
        have A14 := Aside0.mk A140
        clear A140
        replace H := Option.bind_eq_some_iff.mp H
        obtain ⟨t339, A150, H⟩ := H
        replace H : (if 16 ≤ (wrap64 (16 + (wrap64 (t336)))) then (if (wrap64 (16 + (wrap64 (t336)))) ≤ (l0.length : Int) then (if ([] : List Int).length + ((l0.take ((wrap64 (16 + (wrap64 (t336)))) : Int).toNat).drop 16).length < 140737488355328 then (some (t337, t338, t339, (([] : List Int) ++ ((l0.take ((wrap64 (16 + (wrap64 (t336)))) : Int).toNat).drop 16)), wrap64 (16 + (wrap64 (t336))), 0)) else (none)) else (none)) else (none)) = some (r1, r2, r3, r4, r5, r6) := H
        have A15 := Aside0.mk A150
        clear A150
        by_cases c16 : 16 ≤ (wrap64 (16 + (wrap64 (t336))))
        · rw [if_pos c16] at H
          have c16b0 := eq_true c16
          have c16b1 : decide (16 ≤ (wrap64 (16 + (wrap64 (t336))))) = true := decide_eq_true c16
          by_cases c17 : (wrap64 (16 + (wrap64 (t336)))) ≤ (l0.length : Int)
          · rw [if_pos c17] at H
            have c17b0 := eq_true c17
            have c17b1 : decide ((wrap64 (16 + (wrap64 (t336)))) ≤ (l0.length : Int)) = true := decide_eq_true c17
            by_cases c18 : ([] : List Int).length + ((l0.take ((wrap64 (16 + (wrap64 (t336)))) : Int).toNat).drop 16).length < 140737488355328
            · rw [if_pos c18] at H
              have LMc18 := Aside0.mk c18
              clear c18
              obtain ⟨y342, hy342⟩ : ∃ y_ : List Int, y_ = (([] : List Int) ++ ((l0.take ((wrap64 (16 + (wrap64 (t336)))) : Int).toNat).drop 16)) := ⟨_, rfl⟩
              replace H : (some (t337, t338, t339, y342, wrap64 (16 + (wrap64 (t336))), 0)) = some (r1, r2, r3, r4, r5, r6) := by (rw [hy342]; with_reducible exact H)
              have Ny342 := Aside0.mk hy342
              clear hy342
              simp only [Option.some.injEq, Prod.mk.injEq] at H
              obtain ⟨rfl, rfl, rfl, rfl, rfl, rfl⟩ := H
              go_enter Try.func25, Try.ntmps25
              try go_wp2_with (first | ((with_reducible refine gate_dst (N := 4) rfl ?_); refine box_event ?hg (N := 4) ?hd (cs := #[.int .u32 0, .int .u32 0, .int .u32 0, .slice none 0 0]) (t := 46) ?hr ?_; (case hd => rfl); (case hg => rfl); (case hr => (go_simp; done)); intro gb335 hg w19 hbox hb; have n0_ := Aside0.mk (below_step (by exact HB.out) hb); have n1_ := Aside0.mk (hbox); have n2_ := Aside0.mk ((by rw [hg]; exact (below_size (by exact HB.out)) : w.heap.size ≤ gb335)); have n3_ := Aside0.mk ((by rw [hg]; exact (below_size (by exact HB.out)) : w.heap.size ≤ gb335)); clear HB; have HB := n0_; have BK335 := n1_; have GW335 := n2_; have GE335 := n3_; clear n0_ n1_ n2_ n3_; clear hb hbox hg) | ((with_reducible refine gate_callee (f := 51) rfl ?_); refine goesL_ (some 15) rfl rfl Try.func51 (by kernel_rfl) rfl #[.slice A0 l0.length c0, .int .i64 8, .bool a1] rfl (by (try simp only [List.map_toArray, List.map_cons, List.map_nil]); (rfl)) ?_; (with_reducible refine (umpireref09_num.calls k _ _ l0 8 a1 t336 _ ?side1 ?side2 A6.out).mono ?_); (case side1 => exact (Kd.C_below HR0.out HB.out)); (case side2 => exact HC0.out); rintro e w' ⟨rfl, ⟨nd, rfl⟩⟩; refine ⟨_, rfl, ?_⟩; (try (rw [drewN_self w19]; generalize hq_ : World.drewN w19 _ = w19; have n0_ : Aside0 (w19.heap[gb335]? = some (.cells #[.int .u32 0, .int .u32 0, .int .u32 0, .slice none 0 0] 46 (0, 0))) := ⟨by rw [← hq_]; exact (by (with_reducible repeat (refine blk_drewN ?_ _)); exact BK335.out)⟩; have n1_ : Aside0 (Below w.heap.size w w19) := ⟨by rw [← hq_]; exact (by repeat (with_reducible first | exact HB.out | apply pw_below_drewN))⟩; clear BK335 HB hq_; have BK335 := n0_; have HB := n1_; clear n0_ n1_))) | ((with_reducible refine gate_callee (f := 51) rfl ?_); refine goesL_ (some 28) rfl rfl Try.func51 (by kernel_rfl) rfl #[.slice A0 l0.length c0, .int .i64 0, .bool a1] rfl (by (try simp only [List.map_toArray, List.map_cons, List.map_nil]); (rfl)) ?_; (with_reducible refine (umpireref09_num.calls k _ _ l0 0 a1 t337 _ ?side1 ?side2 A13.out).mono ?_); (case side1 => exact (Kd.C_below HR0.out HB.out)); (case side2 => exact HC0.out); rintro e w' ⟨rfl, ⟨nd, rfl⟩⟩; refine ⟨_, rfl, ?_⟩; (try (rw [drewN_self w19]; generalize hq_ : World.drewN w19 _ = w19; have n0_ : Aside0 (w19.heap[gb335]? = some (.cells #[.int .u32 0, .int .u32 0, .int .u32 0, .slice none 0 0] 46 (0, 0))) := ⟨by rw [← hq_]; exact (by (with_reducible repeat (refine blk_drewN ?_ _)); exact BK335.out)⟩; have n1_ : Aside0 (Below w.heap.size w w19) := ⟨by rw [← hq_]; exact (by repeat (with_reducible first | exact HB.out | apply pw_below_drewN))⟩; clear BK335 HB hq_; have BK335 := n0_; have HB := n1_; clear n0_ n1_))) | ((with_reducible refine gate_callee (f := 51) rfl ?_); refine goesL_ (some 31) rfl rfl Try.func51 (by kernel_rfl) rfl #[.slice A0 l0.length c0, .int .i64 4, .bool a1] rfl (by (try simp only [List.map_toArray, List.map_cons, List.map_nil]); (rfl)) ?_; (with_reducible refine (umpireref09_num.calls k _ _ l0 4 a1 t338 _ ?side1 ?side2 A14.out).mono ?_); (case side1 => exact (Kd.C_below HR0.out HB.out)); (case side2 => exact HC0.out); rintro e w' ⟨rfl, ⟨nd, rfl⟩⟩; refine ⟨_, rfl, ?_⟩; (try (rw [drewN_self w19]; generalize hq_ : World.drewN w19 _ = w19; have n0_ : Aside0 (w19.heap[gb335]? = some (.cells #[.int .u32 0, .int .u32 0, .int .u32 0, .slice none 0 0] 46 (0, 0))) := ⟨by rw [← hq_]; exact (by (with_reducible repeat (refine blk_drewN ?_ _)); exact BK335.out)⟩; have n1_ : Aside0 (Below w.heap.size w w19) := ⟨by rw [← hq_]; exact (by repeat (with_reducible first | exact HB.out | apply pw_below_drewN))⟩; clear BK335 HB hq_; have BK335 := n0_; have HB := n1_; clear n0_ n1_))) | ((with_reducible refine gate_callee (f := 51) rfl ?_); refine goesL_ (some 34) rfl rfl Try.func51 (by kernel_rfl) rfl #[.slice A0 l0.length c0, .int .i64 12, .bool a1] rfl (by (try simp only [List.map_toArray, List.map_cons, List.map_nil]); (rfl)) ?_; (with_reducible refine (umpireref09_num.calls k _ _ l0 12 a1 t339 _ ?side1 ?side2 A15.out).mono ?_); (case side1 => exact (Kd.C_below HR0.out HB.out)); (case side2 => exact HC0.out); rintro e w' ⟨rfl, ⟨nd, rfl⟩⟩; refine ⟨_, rfl, ?_⟩; (try (rw [drewN_self w19]; generalize hq_ : World.drewN w19 _ = w19; have n0_ : Aside0 (w19.heap[gb335]? = some (.cells #[.int .u32 0, .int .u32 0, .int .u32 0, .slice none 0 0] 46 (0, 0))) := ⟨by rw [← hq_]; exact (by (with_reducible repeat (refine blk_drewN ?_ _)); exact BK335.out)⟩; have n1_ : Aside0 (Below w.heap.size w w19) := ⟨by rw [← hq_]; exact (by repeat (with_reducible first | exact HB.out | apply pw_below_drewN))⟩; clear BK335 HB hq_; have BK335 := n0_; have HB := n1_; clear n0_ n1_))) | ((with_reducible refine gate_dst (N := 8) rfl ?_); refine box_event ?hg (N := 8) ?hd (cs := #[.int .u32 0, .int .u32 0, .int .u32 0, .slice none 0 0]) (t := 46) ?hr ?_; (case hd => rfl); (case hg => rfl); (case hr => (go_simp; done)); intro gb340 hg w20 hbox hb; have n0_ := Aside0.mk (blk_below (g := gb335) (o := .cells #[.int .u32 0, .int .u32 0, .int .u32 0, .slice none 0 0] 46 (0, 0)) (by exact BK335.out) hb); have n1_ := Aside0.mk (below_step (by exact HB.out) hb); have n2_ := Aside0.mk (hbox); have n3_ := Aside0.mk ((by rw [hg]; exact (below_size (by exact HB.out)) : w.heap.size ≤ gb340)); have n4_ := Aside0.mk ((by rw [hg]; exact (below_size (by exact HB.out)) : w.heap.size ≤ gb340)); have n5_ := Aside0.mk ((by rw [hg]; exact Nat.ne_of_lt (blk_lt (g := gb335) (o := .cells #[.int .u32 0, .int .u32 0, .int .u32 0, .slice none 0 0] 46 (0, 0)) (by exact BK335.out)) : gb335 ≠ gb340)); have n6_ := Aside0.mk ((by rw [hg]; exact Nat.ne_of_gt (blk_lt (g := gb335) (o := .cells #[.int .u32 0, .int .u32 0, .int .u32 0, .slice none 0 0] 46 (0, 0)) (by exact BK335.out)) : gb340 ≠ gb335)); clear BK335; clear HB; have BK335 := n0_; have HB := n1_; have BK340 := n2_; have GW340 := n3_; have GE340 := n4_; have NB335_340 := n5_; have NB340_335 := n6_; clear n0_ n1_ n2_ n3_ n4_ n5_ n6_; clear hb hbox hg; have hnb21 := NB340_335.out; have hnc21 := NB335_340.out; have hcz22_0 : w20.cell? ⟨gb340, 0, none⟩ = some (.int .u32 0) := (blk_cell BK340.out 0).trans rfl; have hcz22_1 : w20.cell? ⟨gb340, 1, none⟩ = some (.int .u32 0) := (blk_cell BK340.out 1).trans rfl; have hcz22_2 : w20.cell? ⟨gb340, 2, none⟩ = some (.int .u32 0) := (blk_cell BK340.out 2).trans rfl; have hcz22_3 : w20.cell? ⟨gb340, 3, none⟩ = some (.slice none 0 0) := (blk_cell BK340.out 3).trans rfl; have hfz22_0 := blk_frozen BK340.out 0; have hfz22_1 := blk_frozen BK340.out 1; have hfz22_2 := blk_frozen BK340.out 2; have hfz22_3 := blk_frozen BK340.out 3))
              have n0_ : Aside0 (((((w20.setCell ⟨gb340, 0, none⟩ (.int .u32 t337)).setCell ⟨gb340, 1, none⟩ (.int .u32 t338)).setCell ⟨gb340, 2, none⟩ (.int .u32 t339)).setCell ⟨gb340, 3, none⟩ (.slice none 0 0)).heap[gb335]? = some (.cells #[.int .u32 0, .int .u32 0, .int .u32 0, .slice none 0 0] 46 (0, 0))) := ⟨by refine blk_far ?_ NB335_340.out _; refine blk_far ?_ NB335_340.out _; refine blk_far ?_ NB335_340.out _; refine blk_far ?_ NB335_340.out _; exact BK335.out⟩
              have n1_ : Aside0 (((((w20.setCell ⟨gb340, 0, none⟩ (.int .u32 t337)).setCell ⟨gb340, 1, none⟩ (.int .u32 t338)).setCell ⟨gb340, 2, none⟩ (.int .u32 t339)).setCell ⟨gb340, 3, none⟩ (.slice none 0 0)).heap[gb340]? = some (.cells #[.int .u32 t337, .int .u32 t338, .int .u32 t339, .slice none 0 0] 46 (0, 0))) := ⟨by refine blk_put (cs := #[.int .u32 t337, .int .u32 t338, .int .u32 t339, .slice none 0 0]) ?_ 3 _ rfl; refine blk_put (cs := #[.int .u32 t337, .int .u32 t338, .int .u32 0, .slice none 0 0]) ?_ 2 _ rfl; refine blk_put (cs := #[.int .u32 t337, .int .u32 0, .int .u32 0, .slice none 0 0]) ?_ 1 _ rfl; refine blk_put (cs := #[.int .u32 0, .int .u32 0, .int .u32 0, .slice none 0 0]) ?_ 0 _ rfl; exact BK340.out⟩
              have n2_ : Aside0 (Below w.heap.size w ((((w20.setCell ⟨gb340, 0, none⟩ (.int .u32 t337)).setCell ⟨gb340, 1, none⟩ (.int .u32 t338)).setCell ⟨gb340, 2, none⟩ (.int .u32 t339)).setCell ⟨gb340, 3, none⟩ (.slice none 0 0))) := ⟨by repeat (with_reducible first | exact HB.out | refine below_set ?_ GE340.out)⟩
              (try clear BK335)
              (try clear BK340)
              (try clear HB)
              generalize ((((w20.setCell ⟨gb340, 0, none⟩ (.int .u32 t337)).setCell ⟨gb340, 1, none⟩ (.int .u32 t338)).setCell ⟨gb340, 2, none⟩ (.int .u32 t339)).setCell ⟨gb340, 3, none⟩ (.slice none 0 0)) = w23 at n0_ n1_ n2_ ⊢
              have BK335 := n0_
              have BK340 := n1_
              have HB := n2_
              clear n0_ n1_ n2_
              have n0_ := Aside0.mk (blk_drew BK335.out)
              have n1_ := Aside0.mk (blk_drew BK340.out)
              have n2_ := Aside0.mk (below_drew1 HB.out)
              clear BK335
              clear BK340
              clear HB
              have BK335 := n0_
              have BK340 := n1_
              have HB := n2_
              clear n0_ n1_ n2_
              obtain ⟨i025, hi025, _, hsz25, _⟩ := info_parts info5
              obtain ⟨A25, hcut25, hA25, hC25⟩ := print_mid_of (P := Try.prog) (Value.int .u8) 0 28 5 .i64 .i64 Try.underlying28 hi025 hsz25 A0 c0 l0 16 (wrap64 (16 + (wrap64 (t336)))) (by omega) (by (omega)) (of_decide_eq_true (by (with_reducible assumption))) HC0.out
              have HR341 := Aside0.mk (Kd.C_of_reads (h1 := fun _ => rfl) (hA25 _ (Kd.reads_of_C HR0.out)))
              have HC341 := Aside0.mk hC25
              clear hA25 hC25 hi025 hsz25
              refine start_ (n := 9) (S := fun w' => w'.cell? ⟨gb340, 0, none⟩ = some (.int .u32 t337) ∧ w'.cell? ⟨gb340, 1, none⟩ = some (.int .u32 t338) ∧ w'.cell? ⟨gb340, 2, none⟩ = some (.int .u32 t339) ∧ w'.cell? ⟨gb340, 3, none⟩ = some (.slice none 0 0)) (ds := [8]) #[false, false, false, false, false, false, false, false, false] (by kernel_rfl) rfl rfl ⟨(blk_cell BK340.out 0).trans rfl, (blk_cell BK340.out 1).trans rfl, (blk_cell BK340.out 2).trans rfl, (blk_cell BK340.out 3).trans rfl⟩ (fun hHeld => ?_); refine with_tabW umpireref09_Next.tab9 umpireref09_Next.bits9 (fun HT_ HW_ => ?_)
              generalize w23.drew = w24 at BK335 BK340 HB HR341 hHeld ⊢
              refine pure_ (i := 0) (N := some 36) (v := ?_) (a' := ?_) #[true, false, false, false, false, false, false, false, false] rfl rfl (any_of HT_.out (by kernel_rfl)) (fun _ _ _ h => h) (Or.inl ⟨by rfl, ?_⟩) ?_ ?_
              rotate_left
              · intro w'
                go_simp
                with_reducible rfl
              rotate_left
              · simp only [Act.put, List.setIfInBounds_toArray, List.set_cons_zero, List.set_cons_succ, i64_w, i32_w]
                rfl
              refine pure_ (i := 2) (N := some 38) (v := ?_) (a' := ?_) #[true, false, true, false, false, false, false, false, false] rfl rfl (any_of HT_.out (by kernel_rfl)) (fun _ _ _ h => h) (Or.inl ⟨by rfl, ?_⟩) ?_ ?_
              rotate_left
              · intro w'
                go_simp
                with_reducible rfl
              rotate_left
              · simp only [Act.put, List.setIfInBounds_toArray, List.set_cons_zero, List.set_cons_succ, i64_w, i32_w]
                rfl
              refine pure_ (i := 3) (N := some 39) (v := ?_) (a' := ?_) #[true, false, true, true, false, false, false, false, false] rfl rfl (any_of HT_.out (by kernel_rfl)) (fun _ _ _ h => h) (Or.inl ⟨by rfl, ?_⟩) ?_ ?_
              rotate_left
              · intro w'
                go_simp
                with_reducible rfl
              rotate_left
              · simp only [Act.put, List.setIfInBounds_toArray, List.set_cons_zero, List.set_cons_succ, i64_w, i32_w]
                rfl
              refine pure_ (i := 4) (N := some 40) (v := ?_) (a' := ?_) #[true, false, true, true, true, false, false, false, false] rfl rfl (any_of HT_.out (by kernel_rfl)) (fun _ _ _ h => h) (Or.inl ⟨by rfl, ?_⟩) ?_ ?_
              rotate_left
              · intro w'
                go_simp
                with_reducible rfl
              rotate_left
              · simp only [Act.put, List.setIfInBounds_toArray, List.set_cons_zero, List.set_cons_succ, i64_w, i32_w]
                rfl
              refine pure_ (i := 5) (N := some 41) (v := ?_) (a' := ?_) #[true, false, true, true, true, true, false, false, false] rfl rfl (any_of HT_.out (by kernel_rfl)) (fun _ _ _ h => h) (Or.inl ⟨by rfl, ?_⟩) ?_ ?_
              rotate_left
              · intro w'
                go_simp
                with_reducible rfl
              rotate_left
              · simp only [Act.put, List.setIfInBounds_toArray, List.set_cons_zero, List.set_cons_succ, i64_w, i32_w]
                rfl
              refine take_ (i := 1) (N := some 37) (v := ?_) (a' := ?_) #[true, true, true, true, true, true, false, false, false] rfl rfl (take_ofW HT_.out HW_.out (by kernel_rfl)) (fun _ _ _ h => h) (Or.inl ⟨by rfl, ?_⟩) hHeld ?_ ?_
              rotate_left
              · rintro w' ⟨s0, s1, s2, s3⟩
                go_simp
                with_reducible rfl
              rotate_left
              · simp only [Act.put, List.setIfInBounds_toArray, List.set_cons_zero, List.set_cons_succ, i64_w, i32_w]
                rfl
              refine one_ (i := 6) (N := some 42) #[true, true, true, true, true, true, true, false, false] rfl rfl (one_of HT_.out (by kernel_rfl)) (by decide) (fun K hK => ?_)
              refine Kd.R_append_rows_step (Kd.int .u8) (w0 := w) w.heap.size (by rfl) (.tmp 37) (.tmp 41) 28 5 (.int .u8 0) 1 rfl Try.underlying28 info5 rfl (by decide) (by omega) (.slice none 0 0) ([] : List Int) ((l0.take ((wrap64 (16 + (wrap64 (t336)))) : Int).toNat).drop 16) _ _ _ (fun _ => True) (fun _ => False) rfl rfl ?aO ?aR (fun _ _ h => h) (fun _ h => h.elim) ?aF ?aB ?aS ?aL ?_
              (case aR => (rw [← show ((l0.take ((wrap64 (16 + (wrap64 (t336)))) : Int).toNat).drop 16).length = ((wrap64 (16 + (wrap64 (t336)))).toNat - 16) from (by rw [List.length_drop, List.length_take]; have h_ : ((wrap64 (16 + (wrap64 (t336)))) : Int) ≤ (l0.length : Int) := of_decide_eq_true (by (with_reducible assumption)); omega)]; exact (Kd.C_below HR341.out HB.out)))
              (case aB => exact (by exact HB.out))
              (case aF => exact (fun _ _ => trivial))
              (case aO => exact (Kd.R_nil _ _ _ _ (fun _ => True)))
              (case aS => exact (below_size (by exact HB.out)))
              (case aL => have := LMc18.out; have hlx_ := (show ((l0.take ((wrap64 (16 + (wrap64 (t336)))) : Int).toNat).drop 16).length = ((wrap64 (16 + (wrap64 (t336)))).toNat - 16) from (by rw [List.length_drop, List.length_take]; have h_ : ((wrap64 (16 + (wrap64 (t336)))) : Int) ≤ (l0.length : Int) := of_decide_eq_true (by (with_reducible assumption)); omega)); omega)
              intro v343 w26 ho hb hg hat
              rw [← Ny342.out] at ho
              have n0_ := Aside0.mk (blk_grown (g := gb335) (o := .cells #[.int .u32 0, .int .u32 0, .int .u32 0, .slice none 0 0] 46 (0, 0)) (by exact BK335.out) hg (by simp [Value.ownBlock]))
              have n1_ := Aside0.mk (blk_grown (g := gb340) (o := .cells #[.int .u32 t337, .int .u32 t338, .int .u32 t339, .slice none 0 0] 46 (0, 0)) (by exact BK340.out) hg (by simp [Value.ownBlock]))
              have n2_ := Aside0.mk (hb)
              have n3_ := Aside0.mk (ho)
              clear BK335
              clear BK340
              clear HB
              have BK335 := n0_
              have BK340 := n1_
              have HB := n2_
              have HO344 := n3_
              clear n0_ n1_ n2_ n3_
              clear ho hb hg hat
              obtain ⟨Ao27, co27, eo27⟩ := Kd.R_slice HO344.out
              (subst eo27)
              refine hK.out _ _ ⟨(blk_cell BK340.out 0).trans rfl, (blk_cell BK340.out 1).trans rfl, (blk_cell BK340.out 2).trans rfl, (blk_cell BK340.out 3).trans rfl⟩ (fun hHeld => ?_)
              clear hK K
              refine norm_ (a' := ?_) ?_ ?_
              rotate_left
              · show Act.put _ (some 42) _ = _
                simp only [Act.put, List.setIfInBounds_toArray, List.set_cons_zero, List.set_cons_succ, i64_w, i32_w]
                rfl
              refine pure_ (i := 7) (N := some 43) (v := ?_) (a' := ?_) #[true, true, true, true, true, true, true, true, false] rfl rfl (any_of HT_.out (by kernel_rfl)) (fun _ _ _ h => h) (Or.inl ⟨by rfl, ?_⟩) ?_ ?_
              rotate_left
              · intro w'
                go_simp
                with_reducible rfl
              rotate_left
              · simp only [Act.put, List.setIfInBounds_toArray, List.set_cons_zero, List.set_cons_succ, i64_w, i32_w]
                rfl
              refine last_ (i := 8) (N := none) #[true, true, true, true, true, true, true, true, true] rfl rfl (one_of HT_.out (by kernel_rfl)) (by decide) (fun K hK => ?_)
              have hs28 : w26.cell? ⟨gb340, 3, none⟩ = some (.slice none 0 0) := (blk_cell BK340.out 3).trans rfl
              have hfs28 := blk_frozen BK340.out 3
              have hns28_0 := NB335_340.out
              have hms28_0 := NB340_335.out
              refine skip_ (w1 := ?_) (by rfl) rfl ?_ ?_
              rotate_left
              · go_simp
                rfl
              refine hK.out _ _ ?_
              clear hK K
              refine done_ (done_of HT_.out (by kernel_rfl)) ?_
              have hcz29_0 : w26.cell? ⟨gb340, 0, none⟩ = some (.int .u32 t337) := (blk_cell BK340.out 0).trans rfl
              have hcz29_1 : w26.cell? ⟨gb340, 1, none⟩ = some (.int .u32 t338) := (blk_cell BK340.out 1).trans rfl
              have hcz29_2 : w26.cell? ⟨gb340, 2, none⟩ = some (.int .u32 t339) := (blk_cell BK340.out 2).trans rfl
              have hcz29_3 : w26.cell? ⟨gb340, 3, none⟩ = some (.slice none 0 0) := (blk_cell BK340.out 3).trans rfl
              have hfz29_0 := blk_frozen BK340.out 0
              have hfz29_1 := blk_frozen BK340.out 1
              have hfz29_2 := blk_frozen BK340.out 2
              have hfz29_3 := blk_frozen BK340.out 3
              have hcz30_0 : w26.cell? ⟨gb335, 0, none⟩ = some (.int .u32 0) := (blk_cell BK335.out 0).trans rfl
              have hcz30_1 : w26.cell? ⟨gb335, 1, none⟩ = some (.int .u32 0) := (blk_cell BK335.out 1).trans rfl
              have hcz30_2 : w26.cell? ⟨gb335, 2, none⟩ = some (.int .u32 0) := (blk_cell BK335.out 2).trans rfl
              have hcz30_3 : w26.cell? ⟨gb335, 3, none⟩ = some (.slice none 0 0) := (blk_cell BK335.out 3).trans rfl
              have hfz30_0 := blk_frozen BK335.out 0
              have hfz30_1 := blk_frozen BK335.out 1
              have hfz30_2 := blk_frozen BK335.out 2
              have hfz30_3 := blk_frozen BK335.out 3
              try go_wp2
              refine bodyPost_ret (results_ctt rfl _ _ gb335 46 #[.int .u32 t337, .int .u32 t338, .int .u32 t339, .slice Ao27 y342.length co27] (0, 0) _ rfl (by refine blk_put (cs := #[.int .u32 t337, .int .u32 t338, .int .u32 t339, .slice none 0 0]) ?_ 3 _ rfl; refine blk_put (cs := #[.int .u32 t337, .int .u32 t338, .int .u32 0, .slice none 0 0]) ?_ 2 _ rfl; refine blk_put (cs := #[.int .u32 t337, .int .u32 0, .int .u32 0, .slice none 0 0]) ?_ 1 _ rfl; refine blk_put (cs := #[.int .u32 0, .int .u32 0, .int .u32 0, .slice none 0 0]) ?_ 0 _ rfl; refine blk_far ?_ NB335_340.out _; exact BK335.out) Try.underlying46 rfl (by kernel_rfl)) rfl ?_
              exact ⟨_, by (rfl), by exact Kd.R_mono (Kd.R_far (p := ⟨gb335, 3, none⟩) (Kd.R_far (p := ⟨gb335, 2, none⟩) (Kd.R_far (p := ⟨gb335, 1, none⟩) (Kd.R_far (p := ⟨gb335, 0, none⟩) (Kd.R_far (p := ⟨gb340, 3, none⟩) (Kd.R_types (Kd.R_types HO344.out BK340.out (by decide)) BK335.out (by decide)) (fun _ hk => hk.1.2) (.slice Ao27 y342.length co27)) (fun _ hk => hk.2) (.int .u32 t337)) (fun _ hk => hk.2) (.int .u32 t338)) (fun _ hk => hk.2) (.int .u32 t339)) (fun _ hk => hk.2) (.slice Ao27 y342.length co27)) (fun _ hk => trivial), by repeat (with_reducible first | exact HB.out | refine below_set ?_ GE335.out | refine below_set ?_ GE340.out)⟩
            · rw [if_neg c18] at H
              exact absurd H (by simp)
          · rw [if_neg c17] at H
            exact absurd H (by simp)
        · rw [if_neg c16] at H
          exact absurd H (by simp)

end Go.Proofs.Ytnjimecjpnjojaa.Print
