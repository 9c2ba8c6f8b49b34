-- laid by this session's own program (wip/mkprint.sh) for this claim
import Derived.Test.Ytnjimecjpnjojaa0
import Derived.Test.YtnjimecjpnjojaaF22
import Derived.Test.YtnjimecjpnjojaaF25
namespace Go.Proofs.Ytnjimecjpnjojaa.Print
open Go.RowKit Go.Proofs.YtnjimecjpnjojaaW.PrintWords Go.Proofs.YtnjimecjpnjojaaW.PrintLast Go.Proofs.YtnjimecjpnjojaaW.PrintMore
attribute [local go_sem] max2_int min2_int max_two min_two max_three min_three max_four min_four   -- for this text's walks alone
set_option linter.unusedVariables false
set_option linter.unusedSimpArgs false

/-! ### umpireref09_Read: function 20 -/
def umpireref09_Read.l0 : Nat → List Int → List (S46) → Int → Bool → Bool → Int → Int → Option (Bool × Bool × Int × Int × (List (S46)) × Int × Int)
  | 0, _, _, _, _, _, _, _ => none
  | k + 1, x0, x7, x8, x353000, x353001, x353002, x353003 => if x8 < (x0.length : Int) then (if 0 ≤ x8 then (if x8 ≤ (x0.length : Int) then ((umpireref09_Next.f k (x0.drop (x8 : Int).toNat) x353000).bind fun bt354 => (if bt354.2.2.2.2.2 = 0 then (if x7.length < 3518437208883 then (umpireref09_Read.l0 k x0 (x7 ++ [(⟨bt354.1, bt354.2.1, bt354.2.2.1, bt354.2.2.2.1⟩ : S46)]) (wrap64 (x8 + bt354.2.2.2.2.1)) x353000 x353001 x353002 x353003) else (none)) else (some (x353000, x353001, x353002, x353003, x7, x8, bt354.2.2.2.2.2)))) else (none)) else (none)) else (some (x353000, x353001, x353002, x353003, x7, 0, 0))
def umpireref09_Read.f (k : Nat) (l0 : List Int) : Option (Bool × Bool × Int × Int × (List (S46)) × Int × Int) := (umpireref09_Head.f k l0).bind fun bt347 => (if bt347.2.2.2.2 = 0 then (umpireref09_Read.l0 k l0 ([] : List (S46)) 24 bt347.1 bt347.2.1 bt347.2.2.1 bt347.2.2.2.1) else (some (false, false, 0, 0, ([] : List (S46)), 0, bt347.2.2.2.2)))
theorem umpireref09_Read.mono_l : ∀ k, (∀ y0 y1 y2 y3 y4 y5 y6, LeO (umpireref09_Read.l0 k y0 y1 y2 y3 y4 y5 y6) (umpireref09_Read.l0 (k + 1) y0 y1 y2 y3 y4 y5 y6))
  | 0 => fun _ _ _ _ _ _ _ r h => by simp [umpireref09_Read.l0] at h
  | k + 1 => by
    have ih0 := umpireref09_Read.mono_l k
    · intro y0 y1 y2 y3 y4 y5 y6
      unfold umpireref09_Read.l0
      repeat' first | (with_reducible exact ih0 _ _ _ _ _ _ _) | (with_reducible exact umpireref09_Next.mono _ _ _) | (with_reducible exact LeO.refl _) | (with_reducible refine LeO.ite ?_ ?_) | (with_reducible refine LeO.bind ?_ (fun _ => ?_))
theorem umpireref09_Read.mono : ∀ a0 k, LeO (umpireref09_Read.f k a0) (umpireref09_Read.f (k + 1) a0) := by
  intro a0 k
  have ih0 := umpireref09_Read.mono_l k
  unfold umpireref09_Read.f
  repeat' first | (with_reducible exact ih0 _ _ _ _ _ _ _) | (with_reducible exact umpireref09_Head.mono _ _) | (with_reducible exact LeO.refl _) | (with_reducible refine LeO.ite ?_ ?_) | (with_reducible refine LeO.bind ?_ (fun _ => ?_))
def umpireref09_Read.T7 : Bool × List (List Nat × List Nat) := (true, [([], []), ([], []), ([0, 1], [0, 1]), ([], []), ([3], [3]), ([2, 4], [2, 4]), ([5], [5]), ([6], [6]), ([6], [6]), ([6], [6]), ([], []), ([10, 7, 5, 0, 1, 2, 3, 4, 5, 6, 7, 10], [7, 10]), ([8, 11, 0, 1, 2, 3, 4, 5, 6, 7, 8, 10, 11], [8]), ([9, 12, 0, 1, 2, 3, 4, 5, 6, 7, 8, 9, 10, 11, 12], [9])])
def umpireref09_Read.B7 : List Nat := [0, 0, 3, 0, 8, 31, 63, 127, 127, 127, 0, 1279, 3583, 8191]
theorem umpireref09_Read.tab7 : rtab .any (opsOf Try.f20 7) = umpireref09_Read.T7 := by kernel_rfl
theorem umpireref09_Read.bits7 : waitsOk umpireref09_Read.T7.2 umpireref09_Read.B7 = true := by kernel_rfl
set_option maxHeartbeats 8000000 in
set_option maxRecDepth 100000 in
theorem umpireref09_Read.calls (k : Nat) (A0 : Option Addr) (c0 : Nat) (l0 : List Int) (r1 : Bool) (r2 : Bool) (r3 : Int) (r4 : Int) (r5 : List (S46)) (r6 : Int) (r7 : Int) (w : World) (hr0 : Kd.C (Kd.int .u8) w A0 l0.length l0) (hc0 : l0.length ≤ c0) (h : umpireref09_Read.f k l0 = some (r1, r2, r3, r4, r5, r6, r7)) :
    Calls Try.prog 20 #[.slice A0 l0.length c0] w fun e w' => ∃ v4_ : Value, e = .returned (.tuple #[.agg #[.bool r1, .bool r2, .int .u32 r3, .int .u32 r4], v4_, .agg #[.int .i64 r6, .int .i64 r7]]) ∧ Kd.S k46 46 w' w.heap.size (fun _ => True) v4_ r5 ∧ Below w.heap.size w w' := by
  have hu24 := Try.underlying24
  have hu36 := Try.underlying36
  have hu46 := Try.underlying46
  have HR0 := Aside0.mk hr0
  have HC0 := Aside0.mk hc0
  clear hr0 hc0
  have HB := Aside0.mk (Below.refl w.heap.size w)
  have H : ((umpireref09_Head.f k l0).bind fun bt347 => (if bt347.2.2.2.2 = 0 then (umpireref09_Read.l0 k l0 ([] : List (S46)) 24 bt347.1 bt347.2.1 bt347.2.2.1 bt347.2.2.2.1) else (some (false, false, 0, 0, ([] : List (S46)), 0, bt347.2.2.2.2)))) = some (r1, r2, r3, r4, r5, r6, r7) := h
  clear h
  replace H := Option.bind_eq_some_iff.mp H
  obtain ⟨⟨t347, t348, t349, t350, t351⟩, A20, H⟩ := H
  replace H : (if t351 = 0 then (umpireref09_Read.l0 k l0 ([] : List (S46)) 24 t347 t348 t349 t350) else (some (false, false, 0, 0, ([] : List (S46)), 0, t351))) = some (r1, r2, r3, r4, r5, r6, r7) := H
  have A2 := Aside0.mk A20
  clear A20
  by_cases c3 : t351 = 0
  · rw [if_pos c3] at H
    have c3b0 : (t351 == 0) = true := beq_iff_eq.mpr c3
    have c3b1 : (t351 != 0) = false := bne_eq_false_iff_eq.mpr c3
    clear c3
    have H' := Aside0.mk H
    clear H
    go_enter Try.func20, Try.ntmps20
    go_wp2_with (first | ((with_reducible refine gate_dst (N := 2) rfl ?_); refine box_event ?hg (N := 2) ?hd (cs := #[.bool false, .bool false, .int .u32 0, .int .u32 0]) (t := 24) ?hr ?_; (case hd => rfl); (case hg => rfl); (case hr => (go_simp; done)); intro gb345 hg w4 hbox hb; have n0_ := Aside0.mk (below_step (by exact HB.out) hb); have n1_ := Aside0.mk (hbox); have n2_ := Aside0.mk ((by rw [hg]; exact (below_size (by exact HB.out)) : w.heap.size ≤ gb345)); have n3_ := Aside0.mk ((by rw [hg]; exact (below_size (by exact HB.out)) : w.heap.size ≤ gb345)); clear HB; have HB := n0_; have BK345 := n1_; have GW345 := n2_; have GE345 := n3_; clear n0_ n1_ n2_ n3_; clear hb hbox hg) | ((with_reducible refine gate_dst (N := 4) rfl ?_); refine box_event ?hg (N := 4) ?hd (cs := #[.int .i64 0, .int .i64 0]) (t := 36) ?hr ?_; (case hd => rfl); (case hg => rfl); (case hr => (go_simp; done)); intro gb346 hg w5 hbox hb; have n0_ := Aside0.mk (blk_below (g := gb345) (o := .cells #[.bool false, .bool false, .int .u32 0, .int .u32 0] 24 (0, 0)) (by exact BK345.out) hb); have n1_ := Aside0.mk (below_step (by exact HB.out) hb); have n2_ := Aside0.mk (hbox); have n3_ := Aside0.mk ((by rw [hg]; exact (below_size (by exact HB.out)) : w.heap.size ≤ gb346)); have n4_ := Aside0.mk ((by rw [hg]; exact (below_size (by exact HB.out)) : w.heap.size ≤ gb346)); have n5_ := Aside0.mk ((by rw [hg]; exact Nat.ne_of_lt (blk_lt (g := gb345) (o := .cells #[.bool false, .bool false, .int .u32 0, .int .u32 0] 24 (0, 0)) (by exact BK345.out)) : gb345 ≠ gb346)); have n6_ := Aside0.mk ((by rw [hg]; exact Nat.ne_of_gt (blk_lt (g := gb345) (o := .cells #[.bool false, .bool false, .int .u32 0, .int .u32 0] 24 (0, 0)) (by exact BK345.out)) : gb346 ≠ gb345)); clear BK345; clear HB; have BK345 := n0_; have HB := n1_; have BK346 := n2_; have GW346 := n3_; have GE346 := n4_; have NB345_346 := n5_; have NB346_345 := n6_; clear n0_ n1_ n2_ n3_ n4_ n5_ n6_; clear hb hbox hg) | ((with_reducible refine gate_callee (f := 22) rfl ?_); refine goesL_ (some 14) rfl rfl Try.func22 (by kernel_rfl) rfl #[.slice A0 l0.length c0] rfl (by (try simp only [List.map_toArray, List.map_cons, List.map_nil]); (rfl)) ?_; (with_reducible refine (umpireref09_Head.calls k _ _ l0 t347 t348 t349 t350 t351 _ ?side1 ?side2 A2.out).mono ?_); (case side1 => exact (Kd.C_below HR0.out HB.out)); (case side2 => exact HC0.out); rintro e w6 ⟨rfl, hb⟩; refine ⟨_, rfl, ?_⟩; have n0_ := Aside0.mk (blk_below (g := gb345) (o := .cells #[.bool false, .bool false, .int .u32 0, .int .u32 0] 24 (0, 0)) (by exact BK345.out) hb); have n1_ := Aside0.mk (blk_below (g := gb346) (o := .cells #[.int .i64 0, .int .i64 0] 36 (0, 0)) (by exact BK346.out) hb); have n2_ := Aside0.mk (below_step (by exact HB.out) hb); clear BK345; clear BK346; clear HB; have BK345 := n0_; have BK346 := n1_; have HB := n2_; clear n0_ n1_ n2_; (try clear hb)) | ((with_reducible refine gate_dst (N := 5) rfl ?_); refine box_event ?hg (N := 5) ?hd (cs := #[.bool false, .bool false, .int .u32 0, .int .u32 0]) (t := 24) ?hr ?_; (case hd => rfl); (case hg => rfl); (case hr => (go_simp; done)); intro gb352 hg w7 hbox hb; have n0_ := Aside0.mk (blk_below (g := gb345) (o := .cells #[.bool false, .bool false, .int .u32 0, .int .u32 0] 24 (0, 0)) (by exact BK345.out) hb); have n1_ := Aside0.mk (blk_below (g := gb346) (o := .cells #[.int .i64 0, .int .i64 0] 36 (0, 0)) (by exact BK346.out) hb); have n2_ := Aside0.mk (below_step (by exact HB.out) hb); have n3_ := Aside0.mk (hbox); have n4_ := Aside0.mk ((by rw [hg]; exact (below_size (by exact HB.out)) : w.heap.size ≤ gb352)); have n5_ := Aside0.mk ((by rw [hg]; exact (below_size (by exact HB.out)) : w.heap.size ≤ gb352)); have n6_ := Aside0.mk ((by rw [hg]; exact Nat.ne_of_lt (blk_lt (g := gb345) (o := .cells #[.bool false, .bool false, .int .u32 0, .int .u32 0] 24 (0, 0)) (by exact BK345.out)) : gb345 ≠ gb352)); have n7_ := Aside0.mk ((by rw [hg]; exact Nat.ne_of_gt (blk_lt (g := gb345) (o := .cells #[.bool false, .bool false, .int .u32 0, .int .u32 0] 24 (0, 0)) (by exact BK345.out)) : gb352 ≠ gb345)); have n8_ := Aside0.mk ((by rw [hg]; exact Nat.ne_of_lt (blk_lt (g := gb346) (o := .cells #[.int .i64 0, .int .i64 0] 36 (0, 0)) (by exact BK346.out)) : gb346 ≠ gb352)); have n9_ := Aside0.mk ((by rw [hg]; exact Nat.ne_of_gt (blk_lt (g := gb346) (o := .cells #[.int .i64 0, .int .i64 0] 36 (0, 0)) (by exact BK346.out)) : gb352 ≠ gb346)); clear BK345; clear BK346; clear HB; have BK345 := n0_; have BK346 := n1_; have HB := n2_; have BK352 := n3_; have GW352 := n4_; have GE352 := n5_; have NB345_352 := n6_; have NB352_345 := n7_; have NB346_352 := n8_; have NB352_346 := n9_; clear n0_ n1_ n2_ n3_ n4_ n5_ n6_ n7_ n8_ n9_; clear hb hbox hg; have hnb8 := NB352_345.out; have hnc8 := NB345_352.out; have hnb9 := NB352_346.out; have hnc9 := NB346_352.out; have hcz10_0 : w7.cell? ⟨gb352, 0, none⟩ = some (.bool false) := (blk_cell BK352.out 0).trans rfl; have hcz10_1 : w7.cell? ⟨gb352, 1, none⟩ = some (.bool false) := (blk_cell BK352.out 1).trans rfl; have hcz10_2 : w7.cell? ⟨gb352, 2, none⟩ = some (.int .u32 0) := (blk_cell BK352.out 2).trans rfl; have hcz10_3 : w7.cell? ⟨gb352, 3, none⟩ = some (.int .u32 0) := (blk_cell BK352.out 3).trans rfl; have hfz10_0 := blk_frozen BK352.out 0; have hfz10_1 := blk_frozen BK352.out 1; have hfz10_2 := blk_frozen BK352.out 2; have hfz10_3 := blk_frozen BK352.out 3))
    go_loopg [7, 8] k (fun kq v7 v8 w' => ∃ (x7_1 : List (S46)) (x8_1 : Int) (x346000_1 : Bool) (x346001_1 : Bool) (x346002_1 : Int) (x346003_1 : Int) (x347000_1 : Int) (x347001_1 : Int), v8 = .int .i64 x8_1 ∧ Aside0 (umpireref09_Read.l0 kq l0 x7_1 x8_1 t347 t348 t349 t350 = some (r1, r2, r3, r4, r5, r6, r7)) ∧ Aside0 (kq ≤ k) ∧ Aside0 (Kd.S k46 46 w' w.heap.size (fun _ => True) v7 x7_1) ∧ Aside0 (w'.heap[gb345]? = some (.cells #[.bool x346000_1, .bool x346001_1, .int .u32 x346002_1, .int .u32 x346003_1] 24 (0, 0))) ∧ Aside0 (w'.heap[gb346]? = some (.cells #[.int .i64 x347000_1, .int .i64 x347001_1] 36 (0, 0))) ∧ Aside0 (w'.heap[gb352]? = some (.cells #[.bool t347, .bool t348, .int .u32 t349, .int .u32 t350] 24 (0, 0))) ∧ Aside0 (Below w.heap.size w w'))
    case atStart => exact ⟨([] : List (S46)), (24), (false), (false), (0), (0), (0), (0), (by (rfl)), H', ⟨Nat.le_refl _⟩, ⟨by (exact Kd.S_nil _ _ _ _ _)⟩, ⟨by refine blk_far ?_ NB345_352.out _; refine blk_far ?_ NB345_352.out _; refine blk_far ?_ NB345_352.out _; refine blk_far ?_ NB345_352.out _; exact BK345.out⟩, ⟨by refine blk_far ?_ NB346_352.out _; refine blk_far ?_ NB346_352.out _; refine blk_far ?_ NB346_352.out _; refine blk_far ?_ NB346_352.out _; exact BK346.out⟩, ⟨by refine blk_put (cs := #[.bool t347, .bool t348, .int .u32 t349, .int .u32 0]) ?_ 3 _ rfl; refine blk_put (cs := #[.bool t347, .bool t348, .int .u32 0, .int .u32 0]) ?_ 2 _ rfl; refine blk_put (cs := #[.bool t347, .bool false, .int .u32 0, .int .u32 0]) ?_ 1 _ rfl; refine blk_put (cs := #[.bool false, .bool false, .int .u32 0, .int .u32 0]) ?_ 0 _ rfl; exact BK352.out⟩, ⟨by repeat (with_reducible first | exact HB.out | refine below_set ?_ GE352.out)⟩⟩
    case round =>
      clear H'
      try clear c3b0
      try clear c3b1
      try clear hcz10_0
      try clear hcz10_1
      try clear hcz10_2
      try clear hcz10_3
      try clear hfz10_0
      try clear hfz10_1
      try clear hfz10_2
      try clear hfz10_3
      obtain ⟨x7_1, x8_1, x346000_1, x346001_1, x346002_1, x346003_1, x347000_1, x347001_1, rfl, HA, HK1, HO_7, BK345, BK346, BK352, HB⟩ := hrel
      cases gk with
      | zero => exact absurd HA.out (by simp [umpireref09_Read.l0])
      | succ k1 =>
        have H := HA.out
        clear HA
        simp only [umpireref09_Read.l0] at H
        by_cases c11 : x8_1 < (l0.length : Int)
        · rw [if_pos c11] at H
          have c11b0 : decide (x8_1 < (l0.length : Int)) = true := decide_eq_true c11
          clear c11
          by_cases c12 : 0 ≤ x8_1
          · rw [if_pos c12] at H
            have c12b0 := eq_true c12
            have c12b1 : decide (0 ≤ x8_1) = true := decide_eq_true c12
            clear c12
            by_cases c13 : x8_1 ≤ (l0.length : Int)
            · rw [if_pos c13] at H
              have c13b0 := eq_true c13
              have c13b1 : decide (x8_1 ≤ (l0.length : Int)) = true := decide_eq_true c13
              clear c13
              replace H := Option.bind_eq_some_iff.mp H
              obtain ⟨⟨t354, t355, t356, t357, t360, t361⟩, A140, H⟩ := H
              replace H : (if t361 = 0 then (if x7_1.length < 3518437208883 then (umpireref09_Read.l0 k1 l0 (x7_1 ++ [(⟨t354, t355, t356, t357⟩ : S46)]) (wrap64 (x8_1 + t360)) t347 t348 t349 t350) else (none)) else (some (t347, t348, t349, t350, x7_1, x8_1, t361))) = some (r1, r2, r3, r4, r5, r6, r7) := H
              have A14 := Aside0.mk A140
              clear A140
              by_cases c15 : t361 = 0
              · rw [if_pos c15] at H
                have c15b0 : (t361 == 0) = true := beq_iff_eq.mpr c15
                have c15b1 : (t361 != 0) = false := bne_eq_false_iff_eq.mpr c15
                clear c15
                by_cases c16 : x7_1.length < 3518437208883
                · rw [if_pos c16] at H
                  have LMc16 := Aside0.mk c16
                  clear c16
                  obtain ⟨y363, hy363⟩ : ∃ y_ : List (S46), y_ = (x7_1 ++ [(⟨t354, t355, t356, t357⟩ : S46)]) := ⟨_, rfl⟩
                  replace H : (umpireref09_Read.l0 k1 l0 y363 (wrap64 (x8_1 + t360)) t347 t348 t349 t350) = some (r1, r2, r3, r4, r5, r6, r7) := by (rw [hy363]; with_reducible exact H)
                  have Ny363 := Aside0.mk hy363
                  clear hy363
                  have H' := Aside0.mk H
                  clear H
                  try go_wp2
                  have n0_ := Aside0.mk (Kd.S_drew HO_7.out)
                  have n1_ := Aside0.mk (blk_drew BK345.out)
                  have n2_ := Aside0.mk (blk_drew BK346.out)
                  have n3_ := Aside0.mk (blk_drew BK352.out)
                  have n4_ := Aside0.mk (below_drew1 HB.out)
                  clear HO_7
                  clear BK345
                  clear BK346
                  clear BK352
                  clear HB
                  have HO_7 := n0_
                  have BK345 := n1_
                  have BK346 := n2_
                  have BK352 := n3_
                  have HB := n4_
                  clear n0_ n1_ n2_ n3_ n4_
                  obtain ⟨i018, hi018, _, hsz18, _⟩ := info_parts info5
                  obtain ⟨A18, hcut18, hA18, hC18⟩ := print_drop_of (P := Try.prog) (Value.int .u8) 0 28 5 .i64 Try.underlying28 hi018 hsz18 A0 c0 l0 x8_1 (of_decide_eq_true (by (with_reducible assumption))) (of_decide_eq_true (by (with_reducible assumption))) HC0.out
                  have HR353 := Aside0.mk (Kd.C_of_reads (h1 := fun _ => rfl) (hA18 _ (Kd.reads_of_C HR0.out)))
                  have HC353 := Aside0.mk hC18
                  clear hA18 hC18 hi018 hsz18
                  refine start_ (n := 14) (S := fun w' => w'.cell? ⟨gb352, 0, none⟩ = some (.bool t347) ∧ w'.cell? ⟨gb352, 1, none⟩ = some (.bool t348) ∧ w'.cell? ⟨gb352, 2, none⟩ = some (.int .u32 t349) ∧ w'.cell? ⟨gb352, 3, none⟩ = some (.int .u32 t350)) (ds := []) #[false, false, false, false, false, false, false, false, false, false, false, false, false, false] (by kernel_rfl) rfl rfl ⟨(blk_cell BK352.out 0).trans rfl, (blk_cell BK352.out 1).trans rfl, (blk_cell BK352.out 2).trans rfl, (blk_cell BK352.out 3).trans rfl⟩ (fun hHeld => ?_); refine with_tabW umpireref09_Read.tab7 umpireref09_Read.bits7 (fun HT_ HW_ => ?_)
                  generalize wr.drew = w17 at HO_7 BK345 BK346 BK352 HB HR353 hHeld ⊢
                  refine pure_ (i := 0) (N := some 27) (v := ?_) (a' := ?_) #[true, false, false, false, false, false, false, false, false, false, false, false, false, false] rfl rfl (any_of HT_.out (by kernel_rfl)) (fun _ _ _ h => h) (Or.inl ⟨by rfl, ?_⟩) ?_ ?_
                  rotate_left
                  · intro w'
                    go_simp
                    with_reducible rfl
                  rotate_left
                  · simp only [Act.put, List.setIfInBounds_toArray, List.set_cons_zero, List.set_cons_succ, i64_w, i32_w]
                    rfl
                  refine pure_ (i := 1) (N := some 28) (v := ?_) (a' := ?_) #[true, true, false, false, false, false, false, false, false, false, false, false, false, false] rfl rfl (any_of HT_.out (by kernel_rfl)) (fun _ _ _ h => h) (Or.inl ⟨by rfl, ?_⟩) ?_ ?_
                  rotate_left
                  · intro w'
                    go_simp
                    with_reducible rfl
                  rotate_left
                  · simp only [Act.put, List.setIfInBounds_toArray, List.set_cons_zero, List.set_cons_succ, i64_w, i32_w]
                    rfl
                  refine pure_ (i := 2) (N := some 29) (v := ?_) (a' := ?_) #[true, true, true, false, false, false, false, false, false, false, false, false, false, false] rfl rfl (any_of HT_.out (by kernel_rfl)) (fun _ _ _ h => h) (Or.inl ⟨by rfl, ?_⟩) ?_ ?_
                  rotate_left
                  · intro w'
                    go_simp
                    with_reducible rfl
                  rotate_left
                  · simp only [Act.put, List.setIfInBounds_toArray, List.set_cons_zero, List.set_cons_succ, i64_w, i32_w]
                    rfl
                  refine pure_ (i := 3) (N := some 30) (v := ?_) (a' := ?_) #[true, true, true, true, false, false, false, false, false, false, false, false, false, false] rfl rfl (any_of HT_.out (by kernel_rfl)) (fun _ _ _ h => h) (Or.inl ⟨by rfl, ?_⟩) ?_ ?_
                  rotate_left
                  · intro w'
                    go_simp
                    with_reducible rfl
                  rotate_left
                  · simp only [Act.put, List.setIfInBounds_toArray, List.set_cons_zero, List.set_cons_succ, i64_w, i32_w]
                    rfl
                  refine take_ (i := 4) (N := some 31) (v := ?_) (a' := ?_) #[true, true, true, true, true, false, false, false, false, false, false, false, false, false] rfl rfl (take_ofW HT_.out HW_.out (by kernel_rfl)) (fun _ _ _ h => h) (Or.inl ⟨by rfl, ?_⟩) hHeld ?_ ?_
                  rotate_left
                  · rintro w' ⟨s0, s1, s2, s3⟩
                    go_simp
                    with_reducible rfl
                  rotate_left
                  · simp only [Act.put, List.setIfInBounds_toArray, List.set_cons_zero, List.set_cons_succ, i64_w, i32_w]
                    rfl
                  refine join_ (σ := Value × Nat) 3 #[true, true, true, true, true, true, true, true, true, true, true, false, false, false] (fun s_ => [(32, .tuple #[.agg #[.int .u32 t354, .int .u32 t355, .int .u32 t356, s_.1], .int .i64 t360, .int .i64 t361]), (9, .pointer (some ⟨s_.2, 0, none⟩)), (26, .tuple #[.agg #[.int .u32 t354, .int .u32 t355, .int .u32 t356, s_.1], .int .i64 t360, .int .i64 t361]), (33, .agg #[.int .u32 t354, .int .u32 t355, .int .u32 t356, s_.1]), (34, .int .i64 t360), (35, .int .i64 t361)]) (fun s_ w' => (w'.cell? ⟨gb352, 0, none⟩ = some (.bool t347) ∧ w'.cell? ⟨gb352, 1, none⟩ = some (.bool t348) ∧ w'.cell? ⟨gb352, 2, none⟩ = some (.int .u32 t349) ∧ w'.cell? ⟨gb352, 3, none⟩ = some (.int .u32 t350)) ∧ (Kd.R (Kd.int .u8) 5 w' w.heap.size (fun _ => True) s_.1 t357) ∧ (Kd.S k46 46 w' w.heap.size (fun k_ => some k_ ≠ (s_.1 : Value).ownBlock ∧ k_ ≠ s_.2) u7 x7_1) ∧ (w'.heap[gb345]? = some (.cells #[.bool x346000_1, .bool x346001_1, .int .u32 x346002_1, .int .u32 x346003_1] 24 (0, 0))) ∧ (w'.heap[gb346]? = some (.cells #[.int .i64 x347000_1, .int .i64 x347001_1] 36 (0, 0))) ∧ (w'.heap[gb352]? = some (.cells #[.bool t347, .bool t348, .int .u32 t349, .int .u32 t350] 24 (0, 0))) ∧ (w'.heap[s_.2]? = some (.cells #[.int .u32 0, .int .u32 0, .int .u32 0, .slice none 0 0] 46 (0, 0))) ∧ (w.heap.size ≤ s_.2) ∧ (w.heap.size ≤ s_.2) ∧ (gb345 ≠ s_.2) ∧ (s_.2 ≠ gb345) ∧ (gb346 ≠ s_.2) ∧ (s_.2 ≠ gb346) ∧ (gb352 ≠ s_.2) ∧ (s_.2 ≠ gb352) ∧ (Below w.heap.size w w')) ?_ ?_
                  rotate_left
                  · intro hCont
                    refine two_ (i := 5) (j := 10) (Ni := some 32) (Nj := some 9) #[true, true, true, true, true, true, false, false, false, false, false, false, false, false] #[true, true, true, true, true, false, false, false, false, false, true, false, false, false] rfl rfl rfl rfl (two_of HT_.out (by kernel_rfl)) (by decide) (by decide) (fun K hK => ?_) (fun K hK => ?_)
                    · skip
                      refine goes_ Try.func25 (by kernel_rfl) rfl #[.slice A18 (l0.drop (x8_1 : Int).toNat).length (c0 - x8_1.toNat), .bool t347] (by rfl) rfl rfl (by (try simp only [List.map_toArray, List.map_cons, List.map_nil]); (rw [show (l0.drop (x8_1 : Int).toNat).length = (l0.length - x8_1.toNat) from List.length_drop] <;> rfl)) ?_
                      with_reducible refine (umpireref09_Next.calls k1 _ _ (l0.drop (x8_1 : Int).toNat) t347 t354 t355 t356 t357 t360 t361 _ ?side1 ?side2 A14.out).mono ?_
                      (case side1 => exact (Kd.C_below HR353.out HB.out))
                      (case side2 => exact HC353.out)
                      rintro e w19 ⟨v358, rfl, ho0, hb⟩
                      refine ⟨_, rfl, ?_⟩
                      have n0_ := Aside0.mk (Kd.S_elder' (by exact HO_7.out) (by (exact Kd.R_base ho0)) hb)
                      have n1_ := Aside0.mk (Kd.R_lower ho0 (below_size (by exact HB.out)))
                      have n2_ := Aside0.mk (blk_below (g := gb345) (o := .cells #[.bool x346000_1, .bool x346001_1, .int .u32 x346002_1, .int .u32 x346003_1] 24 (0, 0)) (by exact BK345.out) hb)
                      have n3_ := Aside0.mk (blk_below (g := gb346) (o := .cells #[.int .i64 x347000_1, .int .i64 x347001_1] 36 (0, 0)) (by exact BK346.out) hb)
                      have n4_ := Aside0.mk (blk_below (g := gb352) (o := .cells #[.bool t347, .bool t348, .int .u32 t349, .int .u32 t350] 24 (0, 0)) (by exact BK352.out) hb)
                      have n5_ := Aside0.mk (below_step (by exact HB.out) hb)
                      clear HO_7
                      clear BK345
                      clear BK346
                      clear BK352
                      clear HB
                      have HO_7 := n0_
                      have HO359 := n1_
                      have BK345 := n2_
                      have BK346 := n3_
                      have BK352 := n4_
                      have HB := n5_
                      clear n0_ n1_ n2_ n3_ n4_ n5_
                      (try clear hb)
                      (skip)
                      (skip)
                      (skip)
                      (try clear ho0)
                      refine hK.out _ _ ⟨(blk_cell BK352.out 0).trans rfl, (blk_cell BK352.out 1).trans rfl, (blk_cell BK352.out 2).trans rfl, (blk_cell BK352.out 3).trans rfl⟩ (fun hHeld => ?_)
                      clear hK K
                      refine norm_ (a' := ?_) ?_ ?_
                      rotate_left
                      · show Act.put _ (some 32) _ = _
                        simp only [Act.put, List.setIfInBounds_toArray, List.set_cons_zero, List.set_cons_succ, i64_w, i32_w]
                        rfl
                      refine pure_ (i := 6) (N := some 26) (v := ?_) (a' := ?_) #[true, true, true, true, true, true, true, false, false, false, false, false, false, false] rfl rfl (any_of HT_.out (by kernel_rfl)) (fun _ _ _ h => h) (Or.inl ⟨by rfl, ?_⟩) ?_ ?_
                      rotate_left
                      · intro w'
                        go_simp
                        with_reducible rfl
                      rotate_left
                      · simp only [Act.put, List.setIfInBounds_toArray, List.set_cons_zero, List.set_cons_succ, i64_w, i32_w]
                        rfl
                      refine pure_ (i := 7) (N := some 33) (v := ?_) (a' := ?_) #[true, true, true, true, true, true, true, true, false, false, false, false, false, false] rfl rfl (any_of HT_.out (by kernel_rfl)) (fun _ _ _ h => h) (Or.inl ⟨by rfl, ?_⟩) ?_ ?_
                      rotate_left
                      · intro w'
                        go_simp
                        with_reducible rfl
                      rotate_left
                      · simp only [Act.put, List.setIfInBounds_toArray, List.set_cons_zero, List.set_cons_succ, i64_w, i32_w]
                        rfl
                      refine pure_ (i := 8) (N := some 34) (v := ?_) (a' := ?_) #[true, true, true, true, true, true, true, true, true, false, false, false, false, false] rfl rfl (any_of HT_.out (by kernel_rfl)) (fun _ _ _ h => h) (Or.inl ⟨by rfl, ?_⟩) ?_ ?_
                      rotate_left
                      · intro w'
                        go_simp
                        with_reducible rfl
                      rotate_left
                      · simp only [Act.put, List.setIfInBounds_toArray, List.set_cons_zero, List.set_cons_succ, i64_w, i32_w]
                        rfl
                      refine pure_ (i := 9) (N := some 35) (v := ?_) (a' := ?_) #[true, true, true, true, true, true, true, true, true, true, false, false, false, false] rfl rfl (any_of HT_.out (by kernel_rfl)) (fun _ _ _ h => h) (Or.inl ⟨by rfl, ?_⟩) ?_ ?_
                      rotate_left
                      · intro w'
                        go_simp
                        with_reducible rfl
                      rotate_left
                      · simp only [Act.put, List.setIfInBounds_toArray, List.set_cons_zero, List.set_cons_succ, i64_w, i32_w]
                        rfl
                      refine one_ (i := 10) (N := some 9) #[true, true, true, true, true, true, true, true, true, true, true, false, false, false] rfl rfl (one_of HT_.out (by kernel_rfl)) (by decide) (fun K hK => ?_)
                      refine box_step ?hg (N := 9) ?hd (cs := #[.int .u32 0, .int .u32 0, .int .u32 0, .slice none 0 0]) (t := 46) ?hr ?_; (case hd => rfl); (case hg => rfl); (case hr => (go_simp; done))
                      intro gb362 hg w20 hbox hb
                      have n0_ := Aside0.mk (Kd.S_below (Kd.S_elderB (by exact HO_7.out) gb362 (Nat.le_of_eq hg.symm)) hb)
                      have n1_ := Aside0.mk (Kd.R_below (by exact HO359.out) hb)
                      have n2_ := Aside0.mk (blk_below (g := gb345) (o := .cells #[.bool x346000_1, .bool x346001_1, .int .u32 x346002_1, .int .u32 x346003_1] 24 (0, 0)) (by exact BK345.out) hb)
                      have n3_ := Aside0.mk (blk_below (g := gb346) (o := .cells #[.int .i64 x347000_1, .int .i64 x347001_1] 36 (0, 0)) (by exact BK346.out) hb)
                      have n4_ := Aside0.mk (blk_below (g := gb352) (o := .cells #[.bool t347, .bool t348, .int .u32 t349, .int .u32 t350] 24 (0, 0)) (by exact BK352.out) hb)
                      have n5_ := Aside0.mk (below_step (by exact HB.out) hb)
                      have n6_ := Aside0.mk (hbox)
                      have n7_ := Aside0.mk ((by rw [hg]; exact (below_size (by exact HB.out)) : w.heap.size ≤ gb362))
                      have n8_ := Aside0.mk ((by rw [hg]; exact (below_size (by exact HB.out)) : w.heap.size ≤ gb362))
                      have n9_ := Aside0.mk ((by rw [hg]; exact Nat.ne_of_lt (blk_lt (g := gb345) (o := .cells #[.bool x346000_1, .bool x346001_1, .int .u32 x346002_1, .int .u32 x346003_1] 24 (0, 0)) (by exact BK345.out)) : gb345 ≠ gb362))
                      have n10_ := Aside0.mk ((by rw [hg]; exact Nat.ne_of_gt (blk_lt (g := gb345) (o := .cells #[.bool x346000_1, .bool x346001_1, .int .u32 x346002_1, .int .u32 x346003_1] 24 (0, 0)) (by exact BK345.out)) : gb362 ≠ gb345))
                      have n11_ := Aside0.mk ((by rw [hg]; exact Nat.ne_of_lt (blk_lt (g := gb346) (o := .cells #[.int .i64 x347000_1, .int .i64 x347001_1] 36 (0, 0)) (by exact BK346.out)) : gb346 ≠ gb362))
                      have n12_ := Aside0.mk ((by rw [hg]; exact Nat.ne_of_gt (blk_lt (g := gb346) (o := .cells #[.int .i64 x347000_1, .int .i64 x347001_1] 36 (0, 0)) (by exact BK346.out)) : gb362 ≠ gb346))
                      have n13_ := Aside0.mk ((by rw [hg]; exact Nat.ne_of_lt (blk_lt (g := gb352) (o := .cells #[.bool t347, .bool t348, .int .u32 t349, .int .u32 t350] 24 (0, 0)) (by exact BK352.out)) : gb352 ≠ gb362))
                      have n14_ := Aside0.mk ((by rw [hg]; exact Nat.ne_of_gt (blk_lt (g := gb352) (o := .cells #[.bool t347, .bool t348, .int .u32 t349, .int .u32 t350] 24 (0, 0)) (by exact BK352.out)) : gb362 ≠ gb352))
                      clear HO_7
                      clear HO359
                      clear BK345
                      clear BK346
                      clear BK352
                      clear HB
                      have HO_7 := n0_
                      have HO359 := n1_
                      have BK345 := n2_
                      have BK346 := n3_
                      have BK352 := n4_
                      have HB := n5_
                      have BK362 := n6_
                      have GW362 := n7_
                      have GE362 := n8_
                      have NB345_362 := n9_
                      have NB362_345 := n10_
                      have NB346_362 := n11_
                      have NB362_346 := n12_
                      have NB352_362 := n13_
                      have NB362_352 := n14_
                      clear n0_ n1_ n2_ n3_ n4_ n5_ n6_ n7_ n8_ n9_ n10_ n11_ n12_ n13_ n14_
                      clear hb hbox hg
                      refine hK.out _ _ ⟨(blk_cell BK352.out 0).trans rfl, (blk_cell BK352.out 1).trans rfl, (blk_cell BK352.out 2).trans rfl, (blk_cell BK352.out 3).trans rfl⟩ (fun hHeld => ?_)
                      clear hK K
                      refine norm_ (a' := ?_) ?_ ?_
                      rotate_left
                      · show Act.put _ (some 9) _ = _
                        simp only [Act.put, List.setIfInBounds_toArray, List.set_cons_zero, List.set_cons_succ, i64_w, i32_w]
                        rfl
                      exact norm_ (by simp only [putAll, Act.put, List.setIfInBounds_toArray, List.set_cons_zero, List.set_cons_succ]) (hCont (v358, gb362) _ ⟨hHeld, (by exact HO359.out), (by exact Kd.S_mono HO_7.out (fun _ hk => ⟨hk.1.2, hk.2⟩)), (by exact BK345.out), (by exact BK346.out), (by exact BK352.out), (by exact BK362.out), GW362.out, GE362.out, NB345_362.out, NB362_345.out, NB346_362.out, NB362_346.out, NB352_362.out, NB362_352.out, (by exact HB.out)⟩)
                    · skip
                      refine box_step ?hg (N := 9) ?hd (cs := #[.int .u32 0, .int .u32 0, .int .u32 0, .slice none 0 0]) (t := 46) ?hr ?_; (case hd => rfl); (case hg => rfl); (case hr => (go_simp; done))
                      intro gb362 hg w19 hbox hb
                      have n0_ := Aside0.mk (Kd.S_below (Kd.S_elderB (by exact HO_7.out) gb362 (Nat.le_of_eq hg.symm)) hb)
                      have n1_ := Aside0.mk (blk_below (g := gb345) (o := .cells #[.bool x346000_1, .bool x346001_1, .int .u32 x346002_1, .int .u32 x346003_1] 24 (0, 0)) (by exact BK345.out) hb)
                      have n2_ := Aside0.mk (blk_below (g := gb346) (o := .cells #[.int .i64 x347000_1, .int .i64 x347001_1] 36 (0, 0)) (by exact BK346.out) hb)
                      have n3_ := Aside0.mk (blk_below (g := gb352) (o := .cells #[.bool t347, .bool t348, .int .u32 t349, .int .u32 t350] 24 (0, 0)) (by exact BK352.out) hb)
                      have n4_ := Aside0.mk (below_step (by exact HB.out) hb)
                      have n5_ := Aside0.mk (hbox)
                      have n6_ := Aside0.mk ((by rw [hg]; exact (below_size (by exact HB.out)) : w.heap.size ≤ gb362))
                      have n7_ := Aside0.mk ((by rw [hg]; exact (below_size (by exact HB.out)) : w.heap.size ≤ gb362))
                      have n8_ := Aside0.mk ((by rw [hg]; exact Nat.ne_of_lt (blk_lt (g := gb345) (o := .cells #[.bool x346000_1, .bool x346001_1, .int .u32 x346002_1, .int .u32 x346003_1] 24 (0, 0)) (by exact BK345.out)) : gb345 ≠ gb362))
                      have n9_ := Aside0.mk ((by rw [hg]; exact Nat.ne_of_gt (blk_lt (g := gb345) (o := .cells #[.bool x346000_1, .bool x346001_1, .int .u32 x346002_1, .int .u32 x346003_1] 24 (0, 0)) (by exact BK345.out)) : gb362 ≠ gb345))
                      have n10_ := Aside0.mk ((by rw [hg]; exact Nat.ne_of_lt (blk_lt (g := gb346) (o := .cells #[.int .i64 x347000_1, .int .i64 x347001_1] 36 (0, 0)) (by exact BK346.out)) : gb346 ≠ gb362))
                      have n11_ := Aside0.mk ((by rw [hg]; exact Nat.ne_of_gt (blk_lt (g := gb346) (o := .cells #[.int .i64 x347000_1, .int .i64 x347001_1] 36 (0, 0)) (by exact BK346.out)) : gb362 ≠ gb346))
                      have n12_ := Aside0.mk ((by rw [hg]; exact Nat.ne_of_lt (blk_lt (g := gb352) (o := .cells #[.bool t347, .bool t348, .int .u32 t349, .int .u32 t350] 24 (0, 0)) (by exact BK352.out)) : gb352 ≠ gb362))
                      have n13_ := Aside0.mk ((by rw [hg]; exact Nat.ne_of_gt (blk_lt (g := gb352) (o := .cells #[.bool t347, .bool t348, .int .u32 t349, .int .u32 t350] 24 (0, 0)) (by exact BK352.out)) : gb362 ≠ gb352))
                      clear HO_7
                      clear BK345
                      clear BK346
                      clear BK352
                      clear HB
                      have HO_7 := n0_
                      have BK345 := n1_
                      have BK346 := n2_
                      have BK352 := n3_
                      have HB := n4_
                      have BK362 := n5_
                      have GW362 := n6_
                      have GE362 := n7_
                      have NB345_362 := n8_
                      have NB362_345 := n9_
                      have NB346_362 := n10_
                      have NB362_346 := n11_
                      have NB352_362 := n12_
                      have NB362_352 := n13_
                      clear n0_ n1_ n2_ n3_ n4_ n5_ n6_ n7_ n8_ n9_ n10_ n11_ n12_ n13_
                      clear hb hbox hg
                      refine hK.out _ _ ⟨(blk_cell BK352.out 0).trans rfl, (blk_cell BK352.out 1).trans rfl, (blk_cell BK352.out 2).trans rfl, (blk_cell BK352.out 3).trans rfl⟩ (fun hHeld => ?_)
                      clear hK K
                      refine norm_ (a' := ?_) ?_ ?_
                      rotate_left
                      · show Act.put _ (some 9) _ = _
                        simp only [Act.put, List.setIfInBounds_toArray, List.set_cons_zero, List.set_cons_succ, i64_w, i32_w]
                        rfl
                      refine one_ (i := 5) (N := some 32) #[true, true, true, true, true, true, false, false, false, false, true, false, false, false] rfl rfl (one_of HT_.out (by kernel_rfl)) (by decide) (fun K hK => ?_)
                      refine goes_ Try.func25 (by kernel_rfl) rfl #[.slice A18 (l0.drop (x8_1 : Int).toNat).length (c0 - x8_1.toNat), .bool t347] (by rfl) rfl rfl (by (try simp only [List.map_toArray, List.map_cons, List.map_nil]); (rw [show (l0.drop (x8_1 : Int).toNat).length = (l0.length - x8_1.toNat) from List.length_drop] <;> rfl)) ?_
                      with_reducible refine (umpireref09_Next.calls k1 _ _ (l0.drop (x8_1 : Int).toNat) t347 t354 t355 t356 t357 t360 t361 _ ?side1 ?side2 A14.out).mono ?_
                      (case side1 => exact (Kd.C_below HR353.out HB.out))
                      (case side2 => exact HC353.out)
                      rintro e w20 ⟨v358, rfl, ho0, hb⟩
                      refine ⟨_, rfl, ?_⟩
                      have n0_ := Aside0.mk (Kd.S_elder' (by exact HO_7.out) (by (exact Kd.R_base ho0)) hb)
                      have n1_ := Aside0.mk (Kd.R_lower ho0 (below_size (by exact HB.out)))
                      have n2_ := Aside0.mk (blk_below (g := gb345) (o := .cells #[.bool x346000_1, .bool x346001_1, .int .u32 x346002_1, .int .u32 x346003_1] 24 (0, 0)) (by exact BK345.out) hb)
                      have n3_ := Aside0.mk (blk_below (g := gb346) (o := .cells #[.int .i64 x347000_1, .int .i64 x347001_1] 36 (0, 0)) (by exact BK346.out) hb)
                      have n4_ := Aside0.mk (blk_below (g := gb352) (o := .cells #[.bool t347, .bool t348, .int .u32 t349, .int .u32 t350] 24 (0, 0)) (by exact BK352.out) hb)
                      have n5_ := Aside0.mk (blk_below (g := gb362) (o := .cells #[.int .u32 0, .int .u32 0, .int .u32 0, .slice none 0 0] 46 (0, 0)) (by exact BK362.out) hb)
                      have n6_ := Aside0.mk (below_step (by exact HB.out) hb)
                      clear HO_7
                      clear BK345
                      clear BK346
                      clear BK352
                      clear BK362
                      clear HB
                      have HO_7 := n0_
                      have HO359 := n1_
                      have BK345 := n2_
                      have BK346 := n3_
                      have BK352 := n4_
                      have BK362 := n5_
                      have HB := n6_
                      clear n0_ n1_ n2_ n3_ n4_ n5_ n6_
                      (try clear hb)
                      (skip)
                      (skip)
                      (skip)
                      (try clear ho0)
                      refine hK.out _ _ ⟨(blk_cell BK352.out 0).trans rfl, (blk_cell BK352.out 1).trans rfl, (blk_cell BK352.out 2).trans rfl, (blk_cell BK352.out 3).trans rfl⟩ (fun hHeld => ?_)
                      clear hK K
                      refine norm_ (a' := ?_) ?_ ?_
                      rotate_left
                      · show Act.put _ (some 32) _ = _
                        simp only [Act.put, List.setIfInBounds_toArray, List.set_cons_zero, List.set_cons_succ, i64_w, i32_w]
                        rfl
                      refine pure_ (i := 6) (N := some 26) (v := ?_) (a' := ?_) #[true, true, true, true, true, true, true, false, false, false, true, false, false, false] rfl rfl (any_of HT_.out (by kernel_rfl)) (fun _ _ _ h => h) (Or.inl ⟨by rfl, ?_⟩) ?_ ?_
                      rotate_left
                      · intro w'
                        go_simp
                        with_reducible rfl
                      rotate_left
                      · simp only [Act.put, List.setIfInBounds_toArray, List.set_cons_zero, List.set_cons_succ, i64_w, i32_w]
                        rfl
                      refine pure_ (i := 7) (N := some 33) (v := ?_) (a' := ?_) #[true, true, true, true, true, true, true, true, false, false, true, false, false, false] rfl rfl (any_of HT_.out (by kernel_rfl)) (fun _ _ _ h => h) (Or.inl ⟨by rfl, ?_⟩) ?_ ?_
                      rotate_left
                      · intro w'
                        go_simp
                        with_reducible rfl
                      rotate_left
                      · simp only [Act.put, List.setIfInBounds_toArray, List.set_cons_zero, List.set_cons_succ, i64_w, i32_w]
                        rfl
                      refine pure_ (i := 8) (N := some 34) (v := ?_) (a' := ?_) #[true, true, true, true, true, true, true, true, true, false, true, false, false, false] rfl rfl (any_of HT_.out (by kernel_rfl)) (fun _ _ _ h => h) (Or.inl ⟨by rfl, ?_⟩) ?_ ?_
                      rotate_left
                      · intro w'
                        go_simp
                        with_reducible rfl
                      rotate_left
                      · simp only [Act.put, List.setIfInBounds_toArray, List.set_cons_zero, List.set_cons_succ, i64_w, i32_w]
                        rfl
                      refine pure_ (i := 9) (N := some 35) (v := ?_) (a' := ?_) #[true, true, true, true, true, true, true, true, true, true, true, false, false, false] rfl rfl (any_of HT_.out (by kernel_rfl)) (fun _ _ _ h => h) (Or.inl ⟨by rfl, ?_⟩) ?_ ?_
                      rotate_left
                      · intro w'
                        go_simp
                        with_reducible rfl
                      rotate_left
                      · simp only [Act.put, List.setIfInBounds_toArray, List.set_cons_zero, List.set_cons_succ, i64_w, i32_w]
                        rfl
                      exact norm_ (by simp only [putAll, Act.put, List.setIfInBounds_toArray, List.set_cons_zero, List.set_cons_succ]) (hCont (v358, gb362) _ ⟨hHeld, (by exact HO359.out), (by exact Kd.S_mono HO_7.out (fun _ hk => ⟨hk.2, hk.1.2⟩)), (by exact BK345.out), (by exact BK346.out), (by exact BK352.out), (by exact BK362.out), GW362.out, GE362.out, NB345_362.out, NB362_345.out, NB346_362.out, NB362_346.out, NB352_362.out, NB362_352.out, (by exact HB.out)⟩)
                  rintro ⟨v358, gb362⟩ w21 ⟨hS_, h0_, h1_, h2_, h3_, h4_, h5_, h6_, h7_, h8_, h9_, h10_, h11_, h12_, h13_, h14_⟩
                  have n0_ : Aside0 (Kd.R (Kd.int .u8) 5 w21 w.heap.size (fun _ => True) v358 t357) := ⟨h0_⟩
                  have n1_ : Aside0 (Kd.S k46 46 w21 w.heap.size (fun k_ => some k_ ≠ (v358 : Value).ownBlock ∧ k_ ≠ gb362) u7 x7_1) := ⟨h1_⟩
                  have n2_ : Aside0 (w21.heap[gb345]? = some (.cells #[.bool x346000_1, .bool x346001_1, .int .u32 x346002_1, .int .u32 x346003_1] 24 (0, 0))) := ⟨h2_⟩
                  have n3_ : Aside0 (w21.heap[gb346]? = some (.cells #[.int .i64 x347000_1, .int .i64 x347001_1] 36 (0, 0))) := ⟨h3_⟩
                  have n4_ : Aside0 (w21.heap[gb352]? = some (.cells #[.bool t347, .bool t348, .int .u32 t349, .int .u32 t350] 24 (0, 0))) := ⟨h4_⟩
                  have n5_ : Aside0 (w21.heap[gb362]? = some (.cells #[.int .u32 0, .int .u32 0, .int .u32 0, .slice none 0 0] 46 (0, 0))) := ⟨h5_⟩
                  have n6_ : Aside0 (w.heap.size ≤ gb362) := ⟨h6_⟩
                  have n7_ : Aside0 (w.heap.size ≤ gb362) := ⟨h7_⟩
                  have n8_ : Aside0 (gb345 ≠ gb362) := ⟨h8_⟩
                  have n9_ : Aside0 (gb362 ≠ gb345) := ⟨h9_⟩
                  have n10_ : Aside0 (gb346 ≠ gb362) := ⟨h10_⟩
                  have n11_ : Aside0 (gb362 ≠ gb346) := ⟨h11_⟩
                  have n12_ : Aside0 (gb352 ≠ gb362) := ⟨h12_⟩
                  have n13_ : Aside0 (gb362 ≠ gb352) := ⟨h13_⟩
                  have n14_ : Aside0 (Below w.heap.size w w21) := ⟨h14_⟩
                  clear HO_7
                  clear BK345
                  clear BK346
                  clear BK352
                  clear HB
                  clear h0_ h1_ h2_ h3_ h4_ h5_ h6_ h7_ h8_ h9_ h10_ h11_ h12_ h13_ h14_
                  have HO359 := n0_
                  have HO_7 := n1_
                  have BK345 := n2_
                  have BK346 := n3_
                  have BK352 := n4_
                  have BK362 := n5_
                  have GW362 := n6_
                  have GE362 := n7_
                  have NB345_362 := n8_
                  have NB362_345 := n9_
                  have NB346_362 := n10_
                  have NB362_346 := n11_
                  have NB352_362 := n12_
                  have NB362_352 := n13_
                  have HB := n14_
                  clear n0_ n1_ n2_ n3_ n4_ n5_ n6_ n7_ n8_ n9_ n10_ n11_ n12_ n13_ n14_
                  have hHeld : w21.cell? ⟨gb352, 0, none⟩ = some (.bool t347) ∧ w21.cell? ⟨gb352, 1, none⟩ = some (.bool t348) ∧ w21.cell? ⟨gb352, 2, none⟩ = some (.int .u32 t349) ∧ w21.cell? ⟨gb352, 3, none⟩ = some (.int .u32 t350) := hS_
                  obtain ⟨Ao25, co25, eo25⟩ := Kd.R_slice HO359.out
                  (subst eo25)
                  refine norm_ (a' := ?_) ?_ ?_
                  rotate_left
                  · simp only [putAll, Act.put, List.setIfInBounds_toArray, List.set_cons_zero, List.set_cons_succ]
                    rfl
                  refine one_ (i := 11) (N := none) #[true, true, true, true, true, true, true, true, true, true, true, true, false, false] rfl rfl (one_of HT_.out (by kernel_rfl)) (by decide) (fun K hK => ?_)
                  have hs22 : w21.cell? ⟨gb362, 0, none⟩ = some (.int .u32 0) := (blk_cell BK362.out 0).trans rfl
                  have hfs22 := blk_frozen BK362.out 0
                  have hns22_0 := NB345_362.out
                  have hns22_1 := NB346_362.out
                  have hns22_2 := NB352_362.out
                  have hms22_0 := NB362_345.out
                  have hms22_1 := NB362_346.out
                  have hms22_2 := NB362_352.out
                  have hs23 : w21.cell? ⟨gb362, 1, none⟩ = some (.int .u32 0) := (blk_cell BK362.out 1).trans rfl
                  have hfs23 := blk_frozen BK362.out 1
                  have hns23_0 := NB345_362.out
                  have hns23_1 := NB346_362.out
                  have hns23_2 := NB352_362.out
                  have hms23_0 := NB362_345.out
                  have hms23_1 := NB362_346.out
                  have hms23_2 := NB362_352.out
                  have hs24 : w21.cell? ⟨gb362, 2, none⟩ = some (.int .u32 0) := (blk_cell BK362.out 2).trans rfl
                  have hfs24 := blk_frozen BK362.out 2
                  have hns24_0 := NB345_362.out
                  have hns24_1 := NB346_362.out
                  have hns24_2 := NB352_362.out
                  have hms24_0 := NB362_345.out
                  have hms24_1 := NB362_346.out
                  have hms24_2 := NB362_352.out
                  have hs26 : w21.cell? ⟨gb362, 3, none⟩ = some (.slice none 0 0) := (blk_cell BK362.out 3).trans rfl
                  have hfs26 := blk_frozen BK362.out 3
                  have hns26_0 := NB345_362.out
                  have hns26_1 := NB346_362.out
                  have hns26_2 := NB352_362.out
                  have hms26_0 := NB362_345.out
                  have hms26_1 := NB362_346.out
                  have hms26_2 := NB362_352.out
                  refine skip_ (w1 := ?_) (by rfl) rfl ?_ ?_
                  rotate_left
                  · go_simp
                    rfl
                  refine hK.out _ _ ⟨((cell_far (p := ⟨gb362, _, none⟩) NB352_362.out _).trans (((cell_far (p := ⟨gb362, _, none⟩) NB352_362.out _).trans (((cell_far (p := ⟨gb362, _, none⟩) NB352_362.out _).trans (((cell_far (p := ⟨gb362, _, none⟩) NB352_362.out _).trans (hHeld.1)))))))), ((cell_far (p := ⟨gb362, _, none⟩) NB352_362.out _).trans (((cell_far (p := ⟨gb362, _, none⟩) NB352_362.out _).trans (((cell_far (p := ⟨gb362, _, none⟩) NB352_362.out _).trans (((cell_far (p := ⟨gb362, _, none⟩) NB352_362.out _).trans (hHeld.2.1)))))))), ((cell_far (p := ⟨gb362, _, none⟩) NB352_362.out _).trans (((cell_far (p := ⟨gb362, _, none⟩) NB352_362.out _).trans (((cell_far (p := ⟨gb362, _, none⟩) NB352_362.out _).trans (((cell_far (p := ⟨gb362, _, none⟩) NB352_362.out _).trans (hHeld.2.2.1)))))))), ((cell_far (p := ⟨gb362, _, none⟩) NB352_362.out _).trans (((cell_far (p := ⟨gb362, _, none⟩) NB352_362.out _).trans (((cell_far (p := ⟨gb362, _, none⟩) NB352_362.out _).trans (((cell_far (p := ⟨gb362, _, none⟩) NB352_362.out _).trans (hHeld.2.2.2))))))))⟩ (fun hHeld => ?_)
                  clear hK K
                  refine pure_ (i := 12) (N := some 10) (v := ?_) (a' := ?_) #[true, true, true, true, true, true, true, true, true, true, true, true, true, false] rfl rfl (any_of HT_.out (by kernel_rfl)) (fun _ _ _ h => h) (Or.inl ⟨by rfl, ?_⟩) ?_ ?_
                  rotate_left
                  · intro w'
                    go_simp
                    with_reducible rfl
                  rotate_left
                  · simp only [Act.put, List.setIfInBounds_toArray, List.set_cons_zero, List.set_cons_succ, i64_w, i32_w]
                    rfl
                  refine pure_ (i := 13) (N := some 11) (v := ?_) (a' := ?_) #[true, true, true, true, true, true, true, true, true, true, true, true, true, true] rfl rfl (any_of HT_.out (by kernel_rfl)) (fun _ _ _ h => h) (Or.inl ⟨by rfl, ?_⟩) ?_ ?_
                  rotate_left
                  · intro w'
                    go_simp
                    with_reducible rfl
                  rotate_left
                  · simp only [Act.put, List.setIfInBounds_toArray, List.set_cons_zero, List.set_cons_succ, i64_w, i32_w]
                    rfl
                  refine done_ (done_of HT_.out (by kernel_rfl)) ?_
                  have n0_ : Aside0 (Kd.S k46 46 ((((w21.setCell ⟨gb362, 0, none⟩ (.int .u32 t354)).setCell ⟨gb362, 1, none⟩ (.int .u32 t355)).setCell ⟨gb362, 2, none⟩ (.int .u32 t356)).setCell ⟨gb362, 3, none⟩ (.slice Ao25 t357.length co25)) w.heap.size (fun k_ => some k_ ≠ (.slice Ao25 t357.length co25 : Value).ownBlock ∧ k_ ≠ gb362) u7 x7_1) := ⟨by exact Kd.S_mono (Kd.S_far (p := ⟨gb362, 3, none⟩) (Kd.S_far (p := ⟨gb362, 2, none⟩) (Kd.S_far (p := ⟨gb362, 1, none⟩) (Kd.S_far (p := ⟨gb362, 0, none⟩) (Kd.S_mono HO_7.out (fun k_ hk => (⟨hk, hk.2⟩ : _ ∧ k_ ≠ gb362))) (fun _ hk => hk.2) (.int .u32 t354)) (fun _ hk => hk.2) (.int .u32 t355)) (fun _ hk => hk.2) (.int .u32 t356)) (fun _ hk => hk.2) (.slice Ao25 t357.length co25)) (fun _ hk => ⟨hk.1.1, hk.1.2⟩)⟩
                  have n1_ : Aside0 (Kd.R (Kd.int .u8) 5 ((((w21.setCell ⟨gb362, 0, none⟩ (.int .u32 t354)).setCell ⟨gb362, 1, none⟩ (.int .u32 t355)).setCell ⟨gb362, 2, none⟩ (.int .u32 t356)).setCell ⟨gb362, 3, none⟩ (.slice Ao25 t357.length co25)) w.heap.size (fun _ => True) (.slice Ao25 t357.length co25) t357) := ⟨by exact Kd.R_mono (Kd.R_far (p := ⟨gb362, 3, none⟩) (Kd.R_far (p := ⟨gb362, 2, none⟩) (Kd.R_far (p := ⟨gb362, 1, none⟩) (Kd.R_far (p := ⟨gb362, 0, none⟩) (Kd.R_types HO359.out BK362.out (by decide)) (fun _ hk => hk.2) (.int .u32 t354)) (fun _ hk => hk.2) (.int .u32 t355)) (fun _ hk => hk.2) (.int .u32 t356)) (fun _ hk => hk.2) (.slice Ao25 t357.length co25)) (fun _ hk => trivial)⟩
                  have n2_ : Aside0 (((((w21.setCell ⟨gb362, 0, none⟩ (.int .u32 t354)).setCell ⟨gb362, 1, none⟩ (.int .u32 t355)).setCell ⟨gb362, 2, none⟩ (.int .u32 t356)).setCell ⟨gb362, 3, none⟩ (.slice Ao25 t357.length co25)).heap[gb345]? = some (.cells #[.bool x346000_1, .bool x346001_1, .int .u32 x346002_1, .int .u32 x346003_1] 24 (0, 0))) := ⟨by refine blk_far ?_ NB345_362.out _; refine blk_far ?_ NB345_362.out _; refine blk_far ?_ NB345_362.out _; refine blk_far ?_ NB345_362.out _; exact BK345.out⟩
                  have n3_ : Aside0 (((((w21.setCell ⟨gb362, 0, none⟩ (.int .u32 t354)).setCell ⟨gb362, 1, none⟩ (.int .u32 t355)).setCell ⟨gb362, 2, none⟩ (.int .u32 t356)).setCell ⟨gb362, 3, none⟩ (.slice Ao25 t357.length co25)).heap[gb346]? = some (.cells #[.int .i64 x347000_1, .int .i64 x347001_1] 36 (0, 0))) := ⟨by refine blk_far ?_ NB346_362.out _; refine blk_far ?_ NB346_362.out _; refine blk_far ?_ NB346_362.out _; refine blk_far ?_ NB346_362.out _; exact BK346.out⟩
                  have n4_ : Aside0 (((((w21.setCell ⟨gb362, 0, none⟩ (.int .u32 t354)).setCell ⟨gb362, 1, none⟩ (.int .u32 t355)).setCell ⟨gb362, 2, none⟩ (.int .u32 t356)).setCell ⟨gb362, 3, none⟩ (.slice Ao25 t357.length co25)).heap[gb352]? = some (.cells #[.bool t347, .bool t348, .int .u32 t349, .int .u32 t350] 24 (0, 0))) := ⟨by refine blk_far ?_ NB352_362.out _; refine blk_far ?_ NB352_362.out _; refine blk_far ?_ NB352_362.out _; refine blk_far ?_ NB352_362.out _; exact BK352.out⟩
                  have n5_ : Aside0 (((((w21.setCell ⟨gb362, 0, none⟩ (.int .u32 t354)).setCell ⟨gb362, 1, none⟩ (.int .u32 t355)).setCell ⟨gb362, 2, none⟩ (.int .u32 t356)).setCell ⟨gb362, 3, none⟩ (.slice Ao25 t357.length co25)).heap[gb362]? = some (.cells #[.int .u32 t354, .int .u32 t355, .int .u32 t356, .slice Ao25 t357.length co25] 46 (0, 0))) := ⟨by refine blk_put (cs := #[.int .u32 t354, .int .u32 t355, .int .u32 t356, .slice none 0 0]) ?_ 3 _ rfl; refine blk_put (cs := #[.int .u32 t354, .int .u32 t355, .int .u32 0, .slice none 0 0]) ?_ 2 _ rfl; refine blk_put (cs := #[.int .u32 t354, .int .u32 0, .int .u32 0, .slice none 0 0]) ?_ 1 _ rfl; refine blk_put (cs := #[.int .u32 0, .int .u32 0, .int .u32 0, .slice none 0 0]) ?_ 0 _ rfl; exact BK362.out⟩
                  have n6_ : Aside0 (Below w.heap.size w ((((w21.setCell ⟨gb362, 0, none⟩ (.int .u32 t354)).setCell ⟨gb362, 1, none⟩ (.int .u32 t355)).setCell ⟨gb362, 2, none⟩ (.int .u32 t356)).setCell ⟨gb362, 3, none⟩ (.slice Ao25 t357.length co25))) := ⟨by repeat (with_reducible first | exact HB.out | refine below_set ?_ GE362.out)⟩
                  (try clear HO_7)
                  (try clear HO359)
                  (try clear BK345)
                  (try clear BK346)
                  (try clear BK352)
                  (try clear BK362)
                  (try clear HB)
                  generalize ((((w21.setCell ⟨gb362, 0, none⟩ (.int .u32 t354)).setCell ⟨gb362, 1, none⟩ (.int .u32 t355)).setCell ⟨gb362, 2, none⟩ (.int .u32 t356)).setCell ⟨gb362, 3, none⟩ (.slice Ao25 t357.length co25)) = w27 at n0_ n1_ n2_ n3_ n4_ n5_ n6_ ⊢
                  have HO_7 := n0_
                  have HO359 := n1_
                  have BK345 := n2_
                  have BK346 := n3_
                  have BK352 := n4_
                  have BK362 := n5_
                  have HB := n6_
                  clear n0_ n1_ n2_ n3_ n4_ n5_ n6_
                  have hnb28 := NB362_345.out
                  have hnc28 := NB345_362.out
                  have hnb29 := NB362_346.out
                  have hnc29 := NB346_362.out
                  have hnb30 := NB362_352.out
                  have hnc30 := NB352_362.out
                  have hcz31_0 : w27.cell? ⟨gb362, 0, none⟩ = some (.int .u32 t354) := (blk_cell BK362.out 0).trans rfl
                  have hcz31_1 : w27.cell? ⟨gb362, 1, none⟩ = some (.int .u32 t355) := (blk_cell BK362.out 1).trans rfl
                  have hcz31_2 : w27.cell? ⟨gb362, 2, none⟩ = some (.int .u32 t356) := (blk_cell BK362.out 2).trans rfl
                  have hcz31_3 : w27.cell? ⟨gb362, 3, none⟩ = some (.slice Ao25 t357.length co25) := (blk_cell BK362.out 3).trans rfl
                  have hfz31_0 := blk_frozen BK362.out 0
                  have hfz31_1 := blk_frozen BK362.out 1
                  have hfz31_2 := blk_frozen BK362.out 2
                  have hfz31_3 := blk_frozen BK362.out 3
                  try go_wp2_with (first | ((with_reducible refine gate_builtin (b := .append) (xs := #[.tmp 43, .tmp 45]) rfl ?_); at_builtin; refine Kd.S_append k46 (w0 := w) w.heap.size rfl (.tmp 43) (.tmp 45) 25 46 (.agg #[(.int .u32 0), (.int .u32 0), (.int .u32 0), (.slice none 0 0)]) 40 rfl Try.underlying25 info46 rfl (by decide) (by omega) u7 x7_1 (⟨t354, t355, t356, t357⟩ : S46) [.int .u32 t354, .int .u32 t355, .int .u32 t356, .slice Ao25 t357.length co25] (fun k_ => k_ ≠ gb362) (fun k_ => some k_ = (.slice Ao25 t357.length co25 : Value).ownBlock) rfl rfl ?aP (fun k_ hk_ => ((Kd.R_mono (ok' := fun k_ => (fun k_ => k_ ≠ gb362) k_ ∧ some k_ ≠ (u7 : Value).ownBlock) (Kd.R_types (Kd.R_apart' (HO359.out) (Kd.S_typed HO_7.out) (by decide)) BK362.out (by decide)) (fun k_ hk => ⟨hk.2, hk.1.2⟩))).1 k_ hk_.symm) ?aF ?aO ?aB ?aS ?aL ?_; (case aP => exact k46_mkM _ _ _ (⟨t354, t355, t356, t357⟩ : S46) (Kd.R_mono (Kd.R_tight rfl (Kd.R_mono (ok' := fun k_ => (fun k_ => k_ ≠ gb362) k_ ∧ some k_ ≠ (u7 : Value).ownBlock) (Kd.R_types (Kd.R_apart' (HO359.out) (Kd.S_typed HO_7.out) (by decide)) BK362.out (by decide)) (fun k_ hk => ⟨hk.2, hk.1.2⟩))) (fun _ h_ => h_))); (case aB => exact (by exact HB.out)); (case aF => exact (fun k_ hk => Kd.freshB (g := gb362) (o := .cells #[.int .u32 t354, .int .u32 t355, .int .u32 t356, .slice Ao25 t357.length co25] 46 (0, 0)) (by exact BK362.out) k_ hk)); (case aO => exact (by exact Kd.S_mono HO_7.out (fun k_ hk => ⟨hk.2, fun e_ => hk.1 e_⟩))); (case aS => exact (below_size (by exact HB.out))); (case aL => have := LMc16.out; omega); intro v364 w32 ho hb hg hat; rw [← Ny363.out] at ho; have n0_ := Aside0.mk (blk_grown (g := gb345) (o := .cells #[.bool x346000_1, .bool x346001_1, .int .u32 x346002_1, .int .u32 x346003_1] 24 (0, 0)) (by exact BK345.out) hg (Kd.S_ne HO_7.out BK345.out (by decide))); have n1_ := Aside0.mk (blk_grown (g := gb346) (o := .cells #[.int .i64 x347000_1, .int .i64 x347001_1] 36 (0, 0)) (by exact BK346.out) hg (Kd.S_ne HO_7.out BK346.out (by decide))); have n2_ := Aside0.mk (blk_grown (g := gb352) (o := .cells #[.bool t347, .bool t348, .int .u32 t349, .int .u32 t350] 24 (0, 0)) (by exact BK352.out) hg (Kd.S_ne HO_7.out BK352.out (by decide))); have n3_ := Aside0.mk (blk_grown (g := gb362) (o := .cells #[.int .u32 t354, .int .u32 t355, .int .u32 t356, .slice Ao25 t357.length co25] 46 (0, 0)) (by exact BK362.out) hg (Kd.S_away HO_7.out (fun _ hk => hk.2))); have n4_ := Aside0.mk (hb); have n5_ := Aside0.mk (ho); clear BK345; clear BK346; clear BK352; clear BK362; clear HB; clear HO_7; clear HO359; have BK345 := n0_; have BK346 := n1_; have BK352 := n2_; have BK362 := n3_; have HB := n4_; have HO365 := n5_; clear n0_ n1_ n2_ n3_ n4_ n5_; clear ho hb hg hat))
                  go_roundg k1
                  case measure => have := HK1.out; omega
                  case rel => exact ⟨(y363), (wrap64 (x8_1 + t360)), (x346000_1), (x346001_1), (x346002_1), (x346003_1), (x347000_1), (x347001_1), (by (rfl)), H', ⟨by have := HK1.out; omega⟩, ⟨by exact Kd.S_mono HO365.out (fun _ hk => trivial)⟩, ⟨by exact BK345.out⟩, ⟨by exact BK346.out⟩, ⟨by exact BK352.out⟩, ⟨by exact HB.out⟩⟩
                · rw [if_neg c16] at H
                  exact absurd H (by simp)
              · rw [if_neg c15] at H
                have c15b0 : (t361 == 0) = false := beq_eq_false_iff_ne.mpr c15
                have c15b1 : (t361 != 0) = true := bne_iff_ne.mpr c15
                simp only [Option.some.injEq, Prod.mk.injEq] at H
                obtain ⟨rfl, rfl, rfl, rfl, rfl, rfl, rfl⟩ := H
                try go_wp2
                have n0_ := Aside0.mk (Kd.S_drew HO_7.out)
                have n1_ := Aside0.mk (blk_drew BK345.out)
                have n2_ := Aside0.mk (blk_drew BK346.out)
                have n3_ := Aside0.mk (blk_drew BK352.out)
                have n4_ := Aside0.mk (below_drew1 HB.out)
                clear HO_7
                clear BK345
                clear BK346
                clear BK352
                clear HB
                have HO_7 := n0_
                have BK345 := n1_
                have BK346 := n2_
                have BK352 := n3_
                have HB := n4_
                clear n0_ n1_ n2_ n3_ n4_
                obtain ⟨i034, hi034, _, hsz34, _⟩ := info_parts info5
                obtain ⟨A34, hcut34, hA34, hC34⟩ := print_drop_of (P := Try.prog) (Value.int .u8) 0 28 5 .i64 Try.underlying28 hi034 hsz34 A0 c0 l0 x8_1 (of_decide_eq_true (by (with_reducible assumption))) (of_decide_eq_true (by (with_reducible assumption))) HC0.out
                have HR353 := Aside0.mk (Kd.C_of_reads (h1 := fun _ => rfl) (hA34 _ (Kd.reads_of_C HR0.out)))
                have HC353 := Aside0.mk hC34
                clear hA34 hC34 hi034 hsz34
                refine start_ (n := 14) (S := fun w' => w'.cell? ⟨gb352, 0, none⟩ = some (.bool t347) ∧ w'.cell? ⟨gb352, 1, none⟩ = some (.bool t348) ∧ w'.cell? ⟨gb352, 2, none⟩ = some (.int .u32 t349) ∧ w'.cell? ⟨gb352, 3, none⟩ = some (.int .u32 t350)) (ds := []) #[false, false, false, false, false, false, false, false, false, false, false, false, false, false] (by kernel_rfl) rfl rfl ⟨(blk_cell BK352.out 0).trans rfl, (blk_cell BK352.out 1).trans rfl, (blk_cell BK352.out 2).trans rfl, (blk_cell BK352.out 3).trans rfl⟩ (fun hHeld => ?_); refine with_tabW umpireref09_Read.tab7 umpireref09_Read.bits7 (fun HT_ HW_ => ?_)
                generalize wr.drew = w33 at HO_7 BK345 BK346 BK352 HB HR353 hHeld ⊢
                refine pure_ (i := 0) (N := some 27) (v := ?_) (a' := ?_) #[true, false, false, false, false, false, false, false, false, false, false, false, false, false] rfl rfl (any_of HT_.out (by kernel_rfl)) (fun _ _ _ h => h) (Or.inl ⟨by rfl, ?_⟩) ?_ ?_
                rotate_left
                · intro w'
                  go_simp
                  with_reducible rfl
                rotate_left
                · simp only [Act.put, List.setIfInBounds_toArray, List.set_cons_zero, List.set_cons_succ, i64_w, i32_w]
                  rfl
                refine pure_ (i := 1) (N := some 28) (v := ?_) (a' := ?_) #[true, true, false, false, false, false, false, false, false, false, false, false, false, false] rfl rfl (any_of HT_.out (by kernel_rfl)) (fun _ _ _ h => h) (Or.inl ⟨by rfl, ?_⟩) ?_ ?_
                rotate_left
                · intro w'
                  go_simp
                  with_reducible rfl
                rotate_left
                · simp only [Act.put, List.setIfInBounds_toArray, List.set_cons_zero, List.set_cons_succ, i64_w, i32_w]
                  rfl
                refine pure_ (i := 2) (N := some 29) (v := ?_) (a' := ?_) #[true, true, true, false, false, false, false, false, false, false, false, false, false, false] rfl rfl (any_of HT_.out (by kernel_rfl)) (fun _ _ _ h => h) (Or.inl ⟨by rfl, ?_⟩) ?_ ?_
                rotate_left
                · intro w'
                  go_simp
                  with_reducible rfl
                rotate_left
                · simp only [Act.put, List.setIfInBounds_toArray, List.set_cons_zero, List.set_cons_succ, i64_w, i32_w]
                  rfl
                refine pure_ (i := 3) (N := some 30) (v := ?_) (a' := ?_) #[true, true, true, true, false, false, false, false, false, false, false, false, false, false] rfl rfl (any_of HT_.out (by kernel_rfl)) (fun _ _ _ h => h) (Or.inl ⟨by rfl, ?_⟩) ?_ ?_
                rotate_left
                · intro w'
                  go_simp
                  with_reducible rfl
                rotate_left
                · simp only [Act.put, List.setIfInBounds_toArray, List.set_cons_zero, List.set_cons_succ, i64_w, i32_w]
                  rfl
                refine take_ (i := 4) (N := some 31) (v := ?_) (a' := ?_) #[true, true, true, true, true, false, false, false, false, false, false, false, false, false] rfl rfl (take_ofW HT_.out HW_.out (by kernel_rfl)) (fun _ _ _ h => h) (Or.inl ⟨by rfl, ?_⟩) hHeld ?_ ?_
                rotate_left
                · rintro w' ⟨s0, s1, s2, s3⟩
                  go_simp
                  with_reducible rfl
                rotate_left
                · simp only [Act.put, List.setIfInBounds_toArray, List.set_cons_zero, List.set_cons_succ, i64_w, i32_w]
                  rfl
                refine join_ (σ := Value × Nat) 3 #[true, true, true, true, true, true, true, true, true, true, true, false, false, false] (fun s_ => [(32, .tuple #[.agg #[.int .u32 t354, .int .u32 t355, .int .u32 t356, s_.1], .int .i64 t360, .int .i64 t361]), (9, .pointer (some ⟨s_.2, 0, none⟩)), (26, .tuple #[.agg #[.int .u32 t354, .int .u32 t355, .int .u32 t356, s_.1], .int .i64 t360, .int .i64 t361]), (33, .agg #[.int .u32 t354, .int .u32 t355, .int .u32 t356, s_.1]), (34, .int .i64 t360), (35, .int .i64 t361)]) (fun s_ w' => (w'.cell? ⟨gb352, 0, none⟩ = some (.bool t347) ∧ w'.cell? ⟨gb352, 1, none⟩ = some (.bool t348) ∧ w'.cell? ⟨gb352, 2, none⟩ = some (.int .u32 t349) ∧ w'.cell? ⟨gb352, 3, none⟩ = some (.int .u32 t350)) ∧ (Kd.R (Kd.int .u8) 5 w' w.heap.size (fun _ => True) s_.1 t357) ∧ (Kd.S k46 46 w' w.heap.size (fun k_ => some k_ ≠ (s_.1 : Value).ownBlock ∧ k_ ≠ s_.2) u7 x7_1) ∧ (w'.heap[gb345]? = some (.cells #[.bool x346000_1, .bool x346001_1, .int .u32 x346002_1, .int .u32 x346003_1] 24 (0, 0))) ∧ (w'.heap[gb346]? = some (.cells #[.int .i64 x347000_1, .int .i64 x347001_1] 36 (0, 0))) ∧ (w'.heap[gb352]? = some (.cells #[.bool t347, .bool t348, .int .u32 t349, .int .u32 t350] 24 (0, 0))) ∧ (w'.heap[s_.2]? = some (.cells #[.int .u32 0, .int .u32 0, .int .u32 0, .slice none 0 0] 46 (0, 0))) ∧ (w.heap.size ≤ s_.2) ∧ (w.heap.size ≤ s_.2) ∧ (gb345 ≠ s_.2) ∧ (s_.2 ≠ gb345) ∧ (gb346 ≠ s_.2) ∧ (s_.2 ≠ gb346) ∧ (gb352 ≠ s_.2) ∧ (s_.2 ≠ gb352) ∧ (Below w.heap.size w w')) ?_ ?_
                rotate_left
                · intro hCont
                  refine two_ (i := 5) (j := 10) (Ni := some 32) (Nj := some 9) #[true, true, true, true, true, true, false, false, false, false, false, false, false, false] #[true, true, true, true, true, false, false, false, false, false, true, false, false, false] rfl rfl rfl rfl (two_of HT_.out (by kernel_rfl)) (by decide) (by decide) (fun K hK => ?_) (fun K hK => ?_)
                  · skip
                    refine goes_ Try.func25 (by kernel_rfl) rfl #[.slice A34 (l0.drop (x8_1 : Int).toNat).length (c0 - x8_1.toNat), .bool t347] (by rfl) rfl rfl (by (try simp only [List.map_toArray, List.map_cons, List.map_nil]); (rw [show (l0.drop (x8_1 : Int).toNat).length = (l0.length - x8_1.toNat) from List.length_drop] <;> rfl)) ?_
                    with_reducible refine (umpireref09_Next.calls k1 _ _ (l0.drop (x8_1 : Int).toNat) t347 t354 t355 t356 t357 t360 t361 _ ?side1 ?side2 A14.out).mono ?_
                    (case side1 => exact (Kd.C_below HR353.out HB.out))
                    (case side2 => exact HC353.out)
                    rintro e w35 ⟨v358, rfl, ho0, hb⟩
                    refine ⟨_, rfl, ?_⟩
                    have n0_ := Aside0.mk (Kd.S_elder' (by exact HO_7.out) (by (exact Kd.R_base ho0)) hb)
                    have n1_ := Aside0.mk (Kd.R_lower ho0 (below_size (by exact HB.out)))
                    have n2_ := Aside0.mk (blk_below (g := gb345) (o := .cells #[.bool x346000_1, .bool x346001_1, .int .u32 x346002_1, .int .u32 x346003_1] 24 (0, 0)) (by exact BK345.out) hb)
                    have n3_ := Aside0.mk (blk_below (g := gb346) (o := .cells #[.int .i64 x347000_1, .int .i64 x347001_1] 36 (0, 0)) (by exact BK346.out) hb)
                    have n4_ := Aside0.mk (blk_below (g := gb352) (o := .cells #[.bool t347, .bool t348, .int .u32 t349, .int .u32 t350] 24 (0, 0)) (by exact BK352.out) hb)
                    have n5_ := Aside0.mk (below_step (by exact HB.out) hb)
                    clear HO_7
                    clear BK345
                    clear BK346
                    clear BK352
                    clear HB
                    have HO_7 := n0_
                    have HO359 := n1_
                    have BK345 := n2_
                    have BK346 := n3_
                    have BK352 := n4_
                    have HB := n5_
                    clear n0_ n1_ n2_ n3_ n4_ n5_
                    (try clear hb)
                    (skip)
                    (skip)
                    (skip)
                    (try clear ho0)
                    refine hK.out _ _ ⟨(blk_cell BK352.out 0).trans rfl, (blk_cell BK352.out 1).trans rfl, (blk_cell BK352.out 2).trans rfl, (blk_cell BK352.out 3).trans rfl⟩ (fun hHeld => ?_)
                    clear hK K
                    refine norm_ (a' := ?_) ?_ ?_
                    rotate_left
                    · show Act.put _ (some 32) _ = _
                      simp only [Act.put, List.setIfInBounds_toArray, List.set_cons_zero, List.set_cons_succ, i64_w, i32_w]
                      rfl
                    refine pure_ (i := 6) (N := some 26) (v := ?_) (a' := ?_) #[true, true, true, true, true, true, true, false, false, false, false, false, false, false] rfl rfl (any_of HT_.out (by kernel_rfl)) (fun _ _ _ h => h) (Or.inl ⟨by rfl, ?_⟩) ?_ ?_
                    rotate_left
                    · intro w'
                      go_simp
                      with_reducible rfl
                    rotate_left
                    · simp only [Act.put, List.setIfInBounds_toArray, List.set_cons_zero, List.set_cons_succ, i64_w, i32_w]
                      rfl
                    refine pure_ (i := 7) (N := some 33) (v := ?_) (a' := ?_) #[true, true, true, true, true, true, true, true, false, false, false, false, false, false] rfl rfl (any_of HT_.out (by kernel_rfl)) (fun _ _ _ h => h) (Or.inl ⟨by rfl, ?_⟩) ?_ ?_
                    rotate_left
                    · intro w'
                      go_simp
                      with_reducible rfl
                    rotate_left
                    · simp only [Act.put, List.setIfInBounds_toArray, List.set_cons_zero, List.set_cons_succ, i64_w, i32_w]
                      rfl
                    refine pure_ (i := 8) (N := some 34) (v := ?_) (a' := ?_) #[true, true, true, true, true, true, true, true, true, false, false, false, false, false] rfl rfl (any_of HT_.out (by kernel_rfl)) (fun _ _ _ h => h) (Or.inl ⟨by rfl, ?_⟩) ?_ ?_
                    rotate_left
                    · intro w'
                      go_simp
                      with_reducible rfl
                    rotate_left
                    · simp only [Act.put, List.setIfInBounds_toArray, List.set_cons_zero, List.set_cons_succ, i64_w, i32_w]
                      rfl
                    refine pure_ (i := 9) (N := some 35) (v := ?_) (a' := ?_) #[true, true, true, true, true, true, true, true, true, true, false, false, false, false] rfl rfl (any_of HT_.out (by kernel_rfl)) (fun _ _ _ h => h) (Or.inl ⟨by rfl, ?_⟩) ?_ ?_
                    rotate_left
                    · intro w'
                      go_simp
                      with_reducible rfl
                    rotate_left
                    · simp only [Act.put, List.setIfInBounds_toArray, List.set_cons_zero, List.set_cons_succ, i64_w, i32_w]
                      rfl
                    refine one_ (i := 10) (N := some 9) #[true, true, true, true, true, true, true, true, true, true, true, false, false, false] rfl rfl (one_of HT_.out (by kernel_rfl)) (by decide) (fun K hK => ?_)
                    refine box_step ?hg (N := 9) ?hd (cs := #[.int .u32 0, .int .u32 0, .int .u32 0, .slice none 0 0]) (t := 46) ?hr ?_; (case hd => rfl); (case hg => rfl); (case hr => (go_simp; done))
                    intro gb362 hg w36 hbox hb
                    have n0_ := Aside0.mk (Kd.S_below (Kd.S_elderB (by exact HO_7.out) gb362 (Nat.le_of_eq hg.symm)) hb)
                    have n1_ := Aside0.mk (Kd.R_below (by exact HO359.out) hb)
                    have n2_ := Aside0.mk (blk_below (g := gb345) (o := .cells #[.bool x346000_1, .bool x346001_1, .int .u32 x346002_1, .int .u32 x346003_1] 24 (0, 0)) (by exact BK345.out) hb)
                    have n3_ := Aside0.mk (blk_below (g := gb346) (o := .cells #[.int .i64 x347000_1, .int .i64 x347001_1] 36 (0, 0)) (by exact BK346.out) hb)
                    have n4_ := Aside0.mk (blk_below (g := gb352) (o := .cells #[.bool t347, .bool t348, .int .u32 t349, .int .u32 t350] 24 (0, 0)) (by exact BK352.out) hb)
                    have n5_ := Aside0.mk (below_step (by exact HB.out) hb)
                    have n6_ := Aside0.mk (hbox)
                    have n7_ := Aside0.mk ((by rw [hg]; exact (below_size (by exact HB.out)) : w.heap.size ≤ gb362))
                    have n8_ := Aside0.mk ((by rw [hg]; exact (below_size (by exact HB.out)) : w.heap.size ≤ gb362))
                    have n9_ := Aside0.mk ((by rw [hg]; exact Nat.ne_of_lt (blk_lt (g := gb345) (o := .cells #[.bool x346000_1, .bool x346001_1, .int .u32 x346002_1, .int .u32 x346003_1] 24 (0, 0)) (by exact BK345.out)) : gb345 ≠ gb362))
                    have n10_ := Aside0.mk ((by rw [hg]; exact Nat.ne_of_gt (blk_lt (g := gb345) (o := .cells #[.bool x346000_1, .bool x346001_1, .int .u32 x346002_1, .int .u32 x346003_1] 24 (0, 0)) (by exact BK345.out)) : gb362 ≠ gb345))
                    have n11_ := Aside0.mk ((by rw [hg]; exact Nat.ne_of_lt (blk_lt (g := gb346) (o := .cells #[.int .i64 x347000_1, .int .i64 x347001_1] 36 (0, 0)) (by exact BK346.out)) : gb346 ≠ gb362))
                    have n12_ := Aside0.mk ((by rw [hg]; exact Nat.ne_of_gt (blk_lt (g := gb346) (o := .cells #[.int .i64 x347000_1, .int .i64 x347001_1] 36 (0, 0)) (by exact BK346.out)) : gb362 ≠ gb346))
                    have n13_ := Aside0.mk ((by rw [hg]; exact Nat.ne_of_lt (blk_lt (g := gb352) (o := .cells #[.bool t347, .bool t348, .int .u32 t349, .int .u32 t350] 24 (0, 0)) (by exact BK352.out)) : gb352 ≠ gb362))
                    have n14_ := Aside0.mk ((by rw [hg]; exact Nat.ne_of_gt (blk_lt (g := gb352) (o := .cells #[.bool t347, .bool t348, .int .u32 t349, .int .u32 t350] 24 (0, 0)) (by exact BK352.out)) : gb362 ≠ gb352))
                    clear HO_7
                    clear HO359
                    clear BK345
                    clear BK346
                    clear BK352
                    clear HB
                    have HO_7 := n0_
                    have HO359 := n1_
                    have BK345 := n2_
                    have BK346 := n3_
                    have BK352 := n4_
                    have HB := n5_
                    have BK362 := n6_
                    have GW362 := n7_
                    have GE362 := n8_
                    have NB345_362 := n9_
                    have NB362_345 := n10_
                    have NB346_362 := n11_
                    have NB362_346 := n12_
                    have NB352_362 := n13_
                    have NB362_352 := n14_
                    clear n0_ n1_ n2_ n3_ n4_ n5_ n6_ n7_ n8_ n9_ n10_ n11_ n12_ n13_ n14_
                    clear hb hbox hg
                    refine hK.out _ _ ⟨(blk_cell BK352.out 0).trans rfl, (blk_cell BK352.out 1).trans rfl, (blk_cell BK352.out 2).trans rfl, (blk_cell BK352.out 3).trans rfl⟩ (fun hHeld => ?_)
                    clear hK K
                    refine norm_ (a' := ?_) ?_ ?_
                    rotate_left
                    · show Act.put _ (some 9) _ = _
                      simp only [Act.put, List.setIfInBounds_toArray, List.set_cons_zero, List.set_cons_succ, i64_w, i32_w]
                      rfl
                    exact norm_ (by simp only [putAll, Act.put, List.setIfInBounds_toArray, List.set_cons_zero, List.set_cons_succ]) (hCont (v358, gb362) _ ⟨hHeld, (by exact HO359.out), (by exact Kd.S_mono HO_7.out (fun _ hk => ⟨hk.1.2, hk.2⟩)), (by exact BK345.out), (by exact BK346.out), (by exact BK352.out), (by exact BK362.out), GW362.out, GE362.out, NB345_362.out, NB362_345.out, NB346_362.out, NB362_346.out, NB352_362.out, NB362_352.out, (by exact HB.out)⟩)
                  · skip
                    refine box_step ?hg (N := 9) ?hd (cs := #[.int .u32 0, .int .u32 0, .int .u32 0, .slice none 0 0]) (t := 46) ?hr ?_; (case hd => rfl); (case hg => rfl); (case hr => (go_simp; done))
                    intro gb362 hg w35 hbox hb
                    have n0_ := Aside0.mk (Kd.S_below (Kd.S_elderB (by exact HO_7.out) gb362 (Nat.le_of_eq hg.symm)) hb)
                    have n1_ := Aside0.mk (blk_below (g := gb345) (o := .cells #[.bool x346000_1, .bool x346001_1, .int .u32 x346002_1, .int .u32 x346003_1] 24 (0, 0)) (by exact BK345.out) hb)
                    have n2_ := Aside0.mk (blk_below (g := gb346) (o := .cells #[.int .i64 x347000_1, .int .i64 x347001_1] 36 (0, 0)) (by exact BK346.out) hb)
                    have n3_ := Aside0.mk (blk_below (g := gb352) (o := .cells #[.bool t347, .bool t348, .int .u32 t349, .int .u32 t350] 24 (0, 0)) (by exact BK352.out) hb)
                    have n4_ := Aside0.mk (below_step (by exact HB.out) hb)
                    have n5_ := Aside0.mk (hbox)
                    have n6_ := Aside0.mk ((by rw [hg]; exact (below_size (by exact HB.out)) : w.heap.size ≤ gb362))
                    have n7_ := Aside0.mk ((by rw [hg]; exact (below_size (by exact HB.out)) : w.heap.size ≤ gb362))
                    have n8_ := Aside0.mk ((by rw [hg]; exact Nat.ne_of_lt (blk_lt (g := gb345) (o := .cells #[.bool x346000_1, .bool x346001_1, .int .u32 x346002_1, .int .u32 x346003_1] 24 (0, 0)) (by exact BK345.out)) : gb345 ≠ gb362))
                    have n9_ := Aside0.mk ((by rw [hg]; exact Nat.ne_of_gt (blk_lt (g := gb345) (o := .cells #[.bool x346000_1, .bool x346001_1, .int .u32 x346002_1, .int .u32 x346003_1] 24 (0, 0)) (by exact BK345.out)) : gb362 ≠ gb345))
                    have n10_ := Aside0.mk ((by rw [hg]; exact Nat.ne_of_lt (blk_lt (g := gb346) (o := .cells #[.int .i64 x347000_1, .int .i64 x347001_1] 36 (0, 0)) (by exact BK346.out)) : gb346 ≠ gb362))
                    have n11_ := Aside0.mk ((by rw [hg]; exact Nat.ne_of_gt (blk_lt (g := gb346) (o := .cells #[.int .i64 x347000_1, .int .i64 x347001_1] 36 (0, 0)) (by exact BK346.out)) : gb362 ≠ gb346))
                    have n12_ := Aside0.mk ((by rw [hg]; exact Nat.ne_of_lt (blk_lt (g := gb352) (o := .cells #[.bool t347, .bool t348, .int .u32 t349, .int .u32 t350] 24 (0, 0)) (by exact BK352.out)) : gb352 ≠ gb362))
                    have n13_ := Aside0.mk ((by rw [hg]; exact Nat.ne_of_gt (blk_lt (g := gb352) (o := .cells #[.bool t347, .bool t348, .int .u32 t349, .int .u32 t350] 24 (0, 0)) (by exact BK352.out)) : gb362 ≠ gb352))
                    clear HO_7
                    clear BK345
                    clear BK346
                    clear BK352
                    clear HB
                    have HO_7 := n0_
                    have BK345 := n1_
                    have BK346 := n2_
                    have BK352 := n3_
                    have HB := n4_
                    have BK362 := n5_
                    have GW362 := n6_
                    have GE362 := n7_
                    have NB345_362 := n8_
                    have NB362_345 := n9_
                    have NB346_362 := n10_
                    have NB362_346 := n11_
                    have NB352_362 := n12_
                    have NB362_352 := n13_
                    clear n0_ n1_ n2_ n3_ n4_ n5_ n6_ n7_ n8_ n9_ n10_ n11_ n12_ n13_
                    clear hb hbox hg
                    refine hK.out _ _ ⟨(blk_cell BK352.out 0).trans rfl, (blk_cell BK352.out 1).trans rfl, (blk_cell BK352.out 2).trans rfl, (blk_cell BK352.out 3).trans rfl⟩ (fun hHeld => ?_)
                    clear hK K
                    refine norm_ (a' := ?_) ?_ ?_
                    rotate_left
                    · show Act.put _ (some 9) _ = _
                      simp only [Act.put, List.setIfInBounds_toArray, List.set_cons_zero, List.set_cons_succ, i64_w, i32_w]
                      rfl
                    refine one_ (i := 5) (N := some 32) #[true, true, true, true, true, true, false, false, false, false, true, false, false, false] rfl rfl (one_of HT_.out (by kernel_rfl)) (by decide) (fun K hK => ?_)
                    refine goes_ Try.func25 (by kernel_rfl) rfl #[.slice A34 (l0.drop (x8_1 : Int).toNat).length (c0 - x8_1.toNat), .bool t347] (by rfl) rfl rfl (by (try simp only [List.map_toArray, List.map_cons, List.map_nil]); (rw [show (l0.drop (x8_1 : Int).toNat).length = (l0.length - x8_1.toNat) from List.length_drop] <;> rfl)) ?_
                    with_reducible refine (umpireref09_Next.calls k1 _ _ (l0.drop (x8_1 : Int).toNat) t347 t354 t355 t356 t357 t360 t361 _ ?side1 ?side2 A14.out).mono ?_
                    (case side1 => exact (Kd.C_below HR353.out HB.out))
                    (case side2 => exact HC353.out)
                    rintro e w36 ⟨v358, rfl, ho0, hb⟩
                    refine ⟨_, rfl, ?_⟩
                    have n0_ := Aside0.mk (Kd.S_elder' (by exact HO_7.out) (by (exact Kd.R_base ho0)) hb)
                    have n1_ := Aside0.mk (Kd.R_lower ho0 (below_size (by exact HB.out)))
                    have n2_ := Aside0.mk (blk_below (g := gb345) (o := .cells #[.bool x346000_1, .bool x346001_1, .int .u32 x346002_1, .int .u32 x346003_1] 24 (0, 0)) (by exact BK345.out) hb)
                    have n3_ := Aside0.mk (blk_below (g := gb346) (o := .cells #[.int .i64 x347000_1, .int .i64 x347001_1] 36 (0, 0)) (by exact BK346.out) hb)
                    have n4_ := Aside0.mk (blk_below (g := gb352) (o := .cells #[.bool t347, .bool t348, .int .u32 t349, .int .u32 t350] 24 (0, 0)) (by exact BK352.out) hb)
                    have n5_ := Aside0.mk (blk_below (g := gb362) (o := .cells #[.int .u32 0, .int .u32 0, .int .u32 0, .slice none 0 0] 46 (0, 0)) (by exact BK362.out) hb)
                    have n6_ := Aside0.mk (below_step (by exact HB.out) hb)
                    clear HO_7
                    clear BK345
                    clear BK346
                    clear BK352
                    clear BK362
                    clear HB
                    have HO_7 := n0_
                    have HO359 := n1_
                    have BK345 := n2_
                    have BK346 := n3_
                    have BK352 := n4_
                    have BK362 := n5_
                    have HB := n6_
                    clear n0_ n1_ n2_ n3_ n4_ n5_ n6_
                    (try clear hb)
                    (skip)
                    (skip)
                    (skip)
                    (try clear ho0)
                    refine hK.out _ _ ⟨(blk_cell BK352.out 0).trans rfl, (blk_cell BK352.out 1).trans rfl, (blk_cell BK352.out 2).trans rfl, (blk_cell BK352.out 3).trans rfl⟩ (fun hHeld => ?_)
                    clear hK K
                    refine norm_ (a' := ?_) ?_ ?_
                    rotate_left
                    · show Act.put _ (some 32) _ = _
                      simp only [Act.put, List.setIfInBounds_toArray, List.set_cons_zero, List.set_cons_succ, i64_w, i32_w]
                      rfl
                    refine pure_ (i := 6) (N := some 26) (v := ?_) (a' := ?_) #[true, true, true, true, true, true, true, false, false, false, true, false, false, false] rfl rfl (any_of HT_.out (by kernel_rfl)) (fun _ _ _ h => h) (Or.inl ⟨by rfl, ?_⟩) ?_ ?_
                    rotate_left
                    · intro w'
                      go_simp
                      with_reducible rfl
                    rotate_left
                    · simp only [Act.put, List.setIfInBounds_toArray, List.set_cons_zero, List.set_cons_succ, i64_w, i32_w]
                      rfl
                    refine pure_ (i := 7) (N := some 33) (v := ?_) (a' := ?_) #[true, true, true, true, true, true, true, true, false, false, true, false, false, false] rfl rfl (any_of HT_.out (by kernel_rfl)) (fun _ _ _ h => h) (Or.inl ⟨by rfl, ?_⟩) ?_ ?_
                    rotate_left
                    · intro w'
                      go_simp
                      with_reducible rfl
                    rotate_left
                    · simp only [Act.put, List.setIfInBounds_toArray, List.set_cons_zero, List.set_cons_succ, i64_w, i32_w]
                      rfl
                    refine pure_ (i := 8) (N := some 34) (v := ?_) (a' := ?_) #[true, true, true, true, true, true, true, true, true, false, true, false, false, false] rfl rfl (any_of HT_.out (by kernel_rfl)) (fun _ _ _ h => h) (Or.inl ⟨by rfl, ?_⟩) ?_ ?_
                    rotate_left
                    · intro w'
                      go_simp
                      with_reducible rfl
                    rotate_left
                    · simp only [Act.put, List.setIfInBounds_toArray, List.set_cons_zero, List.set_cons_succ, i64_w, i32_w]
                      rfl
                    refine pure_ (i := 9) (N := some 35) (v := ?_) (a' := ?_) #[true, true, true, true, true, true, true, true, true, true, true, false, false, false] rfl rfl (any_of HT_.out (by kernel_rfl)) (fun _ _ _ h => h) (Or.inl ⟨by rfl, ?_⟩) ?_ ?_
                    rotate_left
                    · intro w'
                      go_simp
                      with_reducible rfl
                    rotate_left
                    · simp only [Act.put, List.setIfInBounds_toArray, List.set_cons_zero, List.set_cons_succ, i64_w, i32_w]
                      rfl
                    exact norm_ (by simp only [putAll, Act.put, List.setIfInBounds_toArray, List.set_cons_zero, List.set_cons_succ]) (hCont (v358, gb362) _ ⟨hHeld, (by exact HO359.out), (by exact Kd.S_mono HO_7.out (fun _ hk => ⟨hk.2, hk.1.2⟩)), (by exact BK345.out), (by exact BK346.out), (by exact BK352.out), (by exact BK362.out), GW362.out, GE362.out, NB345_362.out, NB362_345.out, NB346_362.out, NB362_346.out, NB352_362.out, NB362_352.out, (by exact HB.out)⟩)
                rintro ⟨v358, gb362⟩ w37 ⟨hS_, h0_, h1_, h2_, h3_, h4_, h5_, h6_, h7_, h8_, h9_, h10_, h11_, h12_, h13_, h14_⟩
                have n0_ : Aside0 (Kd.R (Kd.int .u8) 5 w37 w.heap.size (fun _ => True) v358 t357) := ⟨h0_⟩
                have n1_ : Aside0 (Kd.S k46 46 w37 w.heap.size (fun k_ => some k_ ≠ (v358 : Value).ownBlock ∧ k_ ≠ gb362) u7 x7_1) := ⟨h1_⟩
                have n2_ : Aside0 (w37.heap[gb345]? = some (.cells #[.bool x346000_1, .bool x346001_1, .int .u32 x346002_1, .int .u32 x346003_1] 24 (0, 0))) := ⟨h2_⟩
                have n3_ : Aside0 (w37.heap[gb346]? = some (.cells #[.int .i64 x347000_1, .int .i64 x347001_1] 36 (0, 0))) := ⟨h3_⟩
                have n4_ : Aside0 (w37.heap[gb352]? = some (.cells #[.bool t347, .bool t348, .int .u32 t349, .int .u32 t350] 24 (0, 0))) := ⟨h4_⟩
                have n5_ : Aside0 (w37.heap[gb362]? = some (.cells #[.int .u32 0, .int .u32 0, .int .u32 0, .slice none 0 0] 46 (0, 0))) := ⟨h5_⟩
                have n6_ : Aside0 (w.heap.size ≤ gb362) := ⟨h6_⟩
                have n7_ : Aside0 (w.heap.size ≤ gb362) := ⟨h7_⟩
                have n8_ : Aside0 (gb345 ≠ gb362) := ⟨h8_⟩
                have n9_ : Aside0 (gb362 ≠ gb345) := ⟨h9_⟩
                have n10_ : Aside0 (gb346 ≠ gb362) := ⟨h10_⟩
                have n11_ : Aside0 (gb362 ≠ gb346) := ⟨h11_⟩
                have n12_ : Aside0 (gb352 ≠ gb362) := ⟨h12_⟩
                have n13_ : Aside0 (gb362 ≠ gb352) := ⟨h13_⟩
                have n14_ : Aside0 (Below w.heap.size w w37) := ⟨h14_⟩
                clear HO_7
                clear BK345
                clear BK346
                clear BK352
                clear HB
                clear h0_ h1_ h2_ h3_ h4_ h5_ h6_ h7_ h8_ h9_ h10_ h11_ h12_ h13_ h14_
                have HO359 := n0_
                have HO_7 := n1_
                have BK345 := n2_
                have BK346 := n3_
                have BK352 := n4_
                have BK362 := n5_
                have GW362 := n6_
                have GE362 := n7_
                have NB345_362 := n8_
                have NB362_345 := n9_
                have NB346_362 := n10_
                have NB362_346 := n11_
                have NB352_362 := n12_
                have NB362_352 := n13_
                have HB := n14_
                clear n0_ n1_ n2_ n3_ n4_ n5_ n6_ n7_ n8_ n9_ n10_ n11_ n12_ n13_ n14_
                have hHeld : w37.cell? ⟨gb352, 0, none⟩ = some (.bool t347) ∧ w37.cell? ⟨gb352, 1, none⟩ = some (.bool t348) ∧ w37.cell? ⟨gb352, 2, none⟩ = some (.int .u32 t349) ∧ w37.cell? ⟨gb352, 3, none⟩ = some (.int .u32 t350) := hS_
                obtain ⟨Ao41, co41, eo41⟩ := Kd.R_slice HO359.out
                (subst eo41)
                refine norm_ (a' := ?_) ?_ ?_
                rotate_left
                · simp only [putAll, Act.put, List.setIfInBounds_toArray, List.set_cons_zero, List.set_cons_succ]
                  rfl
                refine one_ (i := 11) (N := none) #[true, true, true, true, true, true, true, true, true, true, true, true, false, false] rfl rfl (one_of HT_.out (by kernel_rfl)) (by decide) (fun K hK => ?_)
                have hs38 : w37.cell? ⟨gb362, 0, none⟩ = some (.int .u32 0) := (blk_cell BK362.out 0).trans rfl
                have hfs38 := blk_frozen BK362.out 0
                have hns38_0 := NB345_362.out
                have hns38_1 := NB346_362.out
                have hns38_2 := NB352_362.out
                have hms38_0 := NB362_345.out
                have hms38_1 := NB362_346.out
                have hms38_2 := NB362_352.out
                have hs39 : w37.cell? ⟨gb362, 1, none⟩ = some (.int .u32 0) := (blk_cell BK362.out 1).trans rfl
                have hfs39 := blk_frozen BK362.out 1
                have hns39_0 := NB345_362.out
                have hns39_1 := NB346_362.out
                have hns39_2 := NB352_362.out
                have hms39_0 := NB362_345.out
                have hms39_1 := NB362_346.out
                have hms39_2 := NB362_352.out
                have hs40 : w37.cell? ⟨gb362, 2, none⟩ = some (.int .u32 0) := (blk_cell BK362.out 2).trans rfl
                have hfs40 := blk_frozen BK362.out 2
                have hns40_0 := NB345_362.out
                have hns40_1 := NB346_362.out
                have hns40_2 := NB352_362.out
                have hms40_0 := NB362_345.out
                have hms40_1 := NB362_346.out
                have hms40_2 := NB362_352.out
                have hs42 : w37.cell? ⟨gb362, 3, none⟩ = some (.slice none 0 0) := (blk_cell BK362.out 3).trans rfl
                have hfs42 := blk_frozen BK362.out 3
                have hns42_0 := NB345_362.out
                have hns42_1 := NB346_362.out
                have hns42_2 := NB352_362.out
                have hms42_0 := NB362_345.out
                have hms42_1 := NB362_346.out
                have hms42_2 := NB362_352.out
                refine skip_ (w1 := ?_) (by rfl) rfl ?_ ?_
                rotate_left
                · go_simp
                  rfl
                refine hK.out _ _ ⟨((cell_far (p := ⟨gb362, _, none⟩) NB352_362.out _).trans (((cell_far (p := ⟨gb362, _, none⟩) NB352_362.out _).trans (((cell_far (p := ⟨gb362, _, none⟩) NB352_362.out _).trans (((cell_far (p := ⟨gb362, _, none⟩) NB352_362.out _).trans (hHeld.1)))))))), ((cell_far (p := ⟨gb362, _, none⟩) NB352_362.out _).trans (((cell_far (p := ⟨gb362, _, none⟩) NB352_362.out _).trans (((cell_far (p := ⟨gb362, _, none⟩) NB352_362.out _).trans (((cell_far (p := ⟨gb362, _, none⟩) NB352_362.out _).trans (hHeld.2.1)))))))), ((cell_far (p := ⟨gb362, _, none⟩) NB352_362.out _).trans (((cell_far (p := ⟨gb362, _, none⟩) NB352_362.out _).trans (((cell_far (p := ⟨gb362, _, none⟩) NB352_362.out _).trans (((cell_far (p := ⟨gb362, _, none⟩) NB352_362.out _).trans (hHeld.2.2.1)))))))), ((cell_far (p := ⟨gb362, _, none⟩) NB352_362.out _).trans (((cell_far (p := ⟨gb362, _, none⟩) NB352_362.out _).trans (((cell_far (p := ⟨gb362, _, none⟩) NB352_362.out _).trans (((cell_far (p := ⟨gb362, _, none⟩) NB352_362.out _).trans (hHeld.2.2.2))))))))⟩ (fun hHeld => ?_)
                clear hK K
                refine pure_ (i := 12) (N := some 10) (v := ?_) (a' := ?_) #[true, true, true, true, true, true, true, true, true, true, true, true, true, false] rfl rfl (any_of HT_.out (by kernel_rfl)) (fun _ _ _ h => h) (Or.inl ⟨by rfl, ?_⟩) ?_ ?_
                rotate_left
                · intro w'
                  go_simp
                  with_reducible rfl
                rotate_left
                · simp only [Act.put, List.setIfInBounds_toArray, List.set_cons_zero, List.set_cons_succ, i64_w, i32_w]
                  rfl
                refine pure_ (i := 13) (N := some 11) (v := ?_) (a' := ?_) #[true, true, true, true, true, true, true, true, true, true, true, true, true, true] rfl rfl (any_of HT_.out (by kernel_rfl)) (fun _ _ _ h => h) (Or.inl ⟨by rfl, ?_⟩) ?_ ?_
                rotate_left
                · intro w'
                  go_simp
                  with_reducible rfl
                rotate_left
                · simp only [Act.put, List.setIfInBounds_toArray, List.set_cons_zero, List.set_cons_succ, i64_w, i32_w]
                  rfl
                refine done_ (done_of HT_.out (by kernel_rfl)) ?_
                have hnb43 := NB352_345.out
                have hnc43 := NB345_352.out
                have hnb44 := NB352_346.out
                have hnc44 := NB346_352.out
                have hnb45 := NB352_362.out
                have hnc45 := NB362_352.out
                have hcz46_0 : w37.cell? ⟨gb352, 0, none⟩ = some (.bool t347) := (blk_cell BK352.out 0).trans rfl
                have hcz46_1 : w37.cell? ⟨gb352, 1, none⟩ = some (.bool t348) := (blk_cell BK352.out 1).trans rfl
                have hcz46_2 : w37.cell? ⟨gb352, 2, none⟩ = some (.int .u32 t349) := (blk_cell BK352.out 2).trans rfl
                have hcz46_3 : w37.cell? ⟨gb352, 3, none⟩ = some (.int .u32 t350) := (blk_cell BK352.out 3).trans rfl
                have hfz46_0 := blk_frozen BK352.out 0
                have hfz46_1 := blk_frozen BK352.out 1
                have hfz46_2 := blk_frozen BK352.out 2
                have hfz46_3 := blk_frozen BK352.out 3
                have hnb47 := NB345_346.out
                have hnc47 := NB346_345.out
                have hnb48 := NB345_362.out
                have hnc48 := NB362_345.out
                have hcz49_0 : w37.cell? ⟨gb345, 0, none⟩ = some (.bool x346000_1) := (blk_cell BK345.out 0).trans rfl
                have hcz49_1 : w37.cell? ⟨gb345, 1, none⟩ = some (.bool x346001_1) := (blk_cell BK345.out 1).trans rfl
                have hcz49_2 : w37.cell? ⟨gb345, 2, none⟩ = some (.int .u32 x346002_1) := (blk_cell BK345.out 2).trans rfl
                have hcz49_3 : w37.cell? ⟨gb345, 3, none⟩ = some (.int .u32 x346003_1) := (blk_cell BK345.out 3).trans rfl
                have hfz49_0 := blk_frozen BK345.out 0
                have hfz49_1 := blk_frozen BK345.out 1
                have hfz49_2 := blk_frozen BK345.out 2
                have hfz49_3 := blk_frozen BK345.out 3
                have hnb50 := NB346_362.out
                have hnc50 := NB362_346.out
                have hcz51_0 : w37.cell? ⟨gb346, 0, none⟩ = some (.int .i64 x347000_1) := (blk_cell BK346.out 0).trans rfl
                have hcz51_1 : w37.cell? ⟨gb346, 1, none⟩ = some (.int .i64 x347001_1) := (blk_cell BK346.out 1).trans rfl
                have hfz51_0 := blk_frozen BK346.out 0
                have hfz51_1 := blk_frozen BK346.out 1
                try go_wp2
                refine bodyPost_ret (results_list (rs := [.cell 2 24, .tmp 3, .cell 4 36]) rfl (by simp) (.cell gb345 24 #[.bool t347, .bool t348, .int .u32 t349, .int .u32 t350] (0, 0) _ rfl (by refine blk_far ?_ NB345_346.out _; refine blk_far ?_ NB345_346.out _; refine blk_put (cs := #[.bool t347, .bool t348, .int .u32 t349, .int .u32 x346003_1]) ?_ 3 _ rfl; refine blk_put (cs := #[.bool t347, .bool t348, .int .u32 x346002_1, .int .u32 x346003_1]) ?_ 2 _ rfl; refine blk_put (cs := #[.bool t347, .bool x346001_1, .int .u32 x346002_1, .int .u32 x346003_1]) ?_ 1 _ rfl; refine blk_put (cs := #[.bool x346000_1, .bool x346001_1, .int .u32 x346002_1, .int .u32 x346003_1]) ?_ 0 _ rfl; refine blk_far ?_ NB345_362.out _; refine blk_far ?_ NB345_362.out _; refine blk_far ?_ NB345_362.out _; refine blk_far ?_ NB345_362.out _; exact BK345.out) Try.underlying24 rfl (by kernel_rfl) (.tmp (.cell gb346 36 #[.int .i64 x8_1, .int .i64 t361] (0, 0) _ rfl (by refine blk_put (cs := #[.int .i64 x8_1, .int .i64 x347001_1]) ?_ 1 _ rfl; refine blk_put (cs := #[.int .i64 x347000_1, .int .i64 x347001_1]) ?_ 0 _ rfl; refine blk_far ?_ NB346_345.out _; refine blk_far ?_ NB346_345.out _; refine blk_far ?_ NB346_345.out _; refine blk_far ?_ NB346_345.out _; refine blk_far ?_ NB346_362.out _; refine blk_far ?_ NB346_362.out _; refine blk_far ?_ NB346_362.out _; refine blk_far ?_ NB346_362.out _; exact BK346.out) Try.underlying36 rfl (by kernel_rfl) .nil)))) rfl ?_
                exact ⟨_, by (rfl), by exact Kd.S_mono (Kd.S_far (p := ⟨gb346, 1, none⟩) (Kd.S_far (p := ⟨gb346, 0, none⟩) (Kd.S_far (p := ⟨gb345, 3, none⟩) (Kd.S_far (p := ⟨gb345, 2, none⟩) (Kd.S_far (p := ⟨gb345, 1, none⟩) (Kd.S_far (p := ⟨gb345, 0, none⟩) (Kd.S_far (p := ⟨gb362, 3, none⟩) (Kd.S_far (p := ⟨gb362, 2, none⟩) (Kd.S_far (p := ⟨gb362, 1, none⟩) (Kd.S_far (p := ⟨gb362, 0, none⟩) (Kd.S_types (Kd.S_types (Kd.S_mono HO_7.out (fun k_ hk => (⟨hk, hk.2⟩ : _ ∧ k_ ≠ gb362))) BK345.out (by decide)) BK346.out (by decide)) (fun _ hk => hk.1.1.2) (.int .u32 t354)) (fun _ hk => hk.1.1.2) (.int .u32 t355)) (fun _ hk => hk.1.1.2) (.int .u32 t356)) (fun _ hk => hk.1.1.2) (.slice Ao41 t357.length co41)) (fun _ hk => hk.1.2) (.bool t347)) (fun _ hk => hk.1.2) (.bool t348)) (fun _ hk => hk.1.2) (.int .u32 t349)) (fun _ hk => hk.1.2) (.int .u32 t350)) (fun _ hk => hk.2) (.int .i64 x8_1)) (fun _ hk => hk.2) (.int .i64 t361)) (fun _ hk => trivial), by repeat (with_reducible first | exact HB.out | refine below_set ?_ GE345.out | refine below_set ?_ GE346.out | refine below_set ?_ GE362.out)⟩
            · rw [if_neg c13] at H
              exact absurd H (by simp)
          · rw [if_neg c12] at H
            exact absurd H (by simp)
        · rw [if_neg c11] at H
          have c11b0 : decide (x8_1 < (l0.length : Int)) = false := decide_eq_false c11
          clear c11
          simp only [Option.some.injEq, Prod.mk.injEq] at H
          obtain ⟨rfl, rfl, rfl, rfl, rfl, rfl, rfl⟩ := H
          have hnb52 := NB352_345.out
          have hnc52 := NB345_352.out
          have hnb53 := NB352_346.out
          have hnc53 := NB346_352.out
          have hcz54_0 : wr.cell? ⟨gb352, 0, none⟩ = some (.bool t347) := (blk_cell BK352.out 0).trans rfl
          have hcz54_1 : wr.cell? ⟨gb352, 1, none⟩ = some (.bool t348) := (blk_cell BK352.out 1).trans rfl
          have hcz54_2 : wr.cell? ⟨gb352, 2, none⟩ = some (.int .u32 t349) := (blk_cell BK352.out 2).trans rfl
          have hcz54_3 : wr.cell? ⟨gb352, 3, none⟩ = some (.int .u32 t350) := (blk_cell BK352.out 3).trans rfl
          have hfz54_0 := blk_frozen BK352.out 0
          have hfz54_1 := blk_frozen BK352.out 1
          have hfz54_2 := blk_frozen BK352.out 2
          have hfz54_3 := blk_frozen BK352.out 3
          have hnb55 := NB345_346.out
          have hnc55 := NB346_345.out
          have hcz56_0 : wr.cell? ⟨gb345, 0, none⟩ = some (.bool x346000_1) := (blk_cell BK345.out 0).trans rfl
          have hcz56_1 : wr.cell? ⟨gb345, 1, none⟩ = some (.bool x346001_1) := (blk_cell BK345.out 1).trans rfl
          have hcz56_2 : wr.cell? ⟨gb345, 2, none⟩ = some (.int .u32 x346002_1) := (blk_cell BK345.out 2).trans rfl
          have hcz56_3 : wr.cell? ⟨gb345, 3, none⟩ = some (.int .u32 x346003_1) := (blk_cell BK345.out 3).trans rfl
          have hfz56_0 := blk_frozen BK345.out 0
          have hfz56_1 := blk_frozen BK345.out 1
          have hfz56_2 := blk_frozen BK345.out 2
          have hfz56_3 := blk_frozen BK345.out 3
          have hcz57_0 : wr.cell? ⟨gb346, 0, none⟩ = some (.int .i64 x347000_1) := (blk_cell BK346.out 0).trans rfl
          have hcz57_1 : wr.cell? ⟨gb346, 1, none⟩ = some (.int .i64 x347001_1) := (blk_cell BK346.out 1).trans rfl
          have hfz57_0 := blk_frozen BK346.out 0
          have hfz57_1 := blk_frozen BK346.out 1
          go_wp2
          refine bodyPost_ret (results_list (rs := [.cell 2 24, .tmp 3, .cell 4 36]) rfl (by simp) (.cell gb345 24 #[.bool t347, .bool t348, .int .u32 t349, .int .u32 t350] (0, 0) _ rfl (by refine blk_far ?_ NB345_346.out _; refine blk_far ?_ NB345_346.out _; refine blk_put (cs := #[.bool t347, .bool t348, .int .u32 t349, .int .u32 x346003_1]) ?_ 3 _ rfl; refine blk_put (cs := #[.bool t347, .bool t348, .int .u32 x346002_1, .int .u32 x346003_1]) ?_ 2 _ rfl; refine blk_put (cs := #[.bool t347, .bool x346001_1, .int .u32 x346002_1, .int .u32 x346003_1]) ?_ 1 _ rfl; refine blk_put (cs := #[.bool x346000_1, .bool x346001_1, .int .u32 x346002_1, .int .u32 x346003_1]) ?_ 0 _ rfl; exact BK345.out) Try.underlying24 rfl (by kernel_rfl) (.tmp (.cell gb346 36 #[.int .i64 0, .int .i64 0] (0, 0) _ rfl (by refine blk_put (cs := #[.int .i64 0, .int .i64 x347001_1]) ?_ 1 _ rfl; refine blk_put (cs := #[.int .i64 x347000_1, .int .i64 x347001_1]) ?_ 0 _ rfl; refine blk_far ?_ NB346_345.out _; refine blk_far ?_ NB346_345.out _; refine blk_far ?_ NB346_345.out _; refine blk_far ?_ NB346_345.out _; exact BK346.out) Try.underlying36 rfl (by kernel_rfl) .nil)))) rfl ?_
          exact ⟨_, by (rfl), by exact Kd.S_mono (Kd.S_far (p := ⟨gb346, 1, none⟩) (Kd.S_far (p := ⟨gb346, 0, none⟩) (Kd.S_far (p := ⟨gb345, 3, none⟩) (Kd.S_far (p := ⟨gb345, 2, none⟩) (Kd.S_far (p := ⟨gb345, 1, none⟩) (Kd.S_far (p := ⟨gb345, 0, none⟩) (Kd.S_types (Kd.S_types HO_7.out BK345.out (by decide)) BK346.out (by decide)) (fun _ hk => hk.1.2) (.bool t347)) (fun _ hk => hk.1.2) (.bool t348)) (fun _ hk => hk.1.2) (.int .u32 t349)) (fun _ hk => hk.1.2) (.int .u32 t350)) (fun _ hk => hk.2) (.int .i64 0)) (fun _ hk => hk.2) (.int .i64 0)) (fun _ hk => trivial), by repeat (with_reducible first | exact HB.out | refine below_set ?_ GE345.out | refine below_set ?_ GE346.out)⟩
  · rw [if_neg c3] at H
    have c3b0 : (t351 == 0) = false := beq_eq_false_iff_ne.mpr c3
    have c3b1 : (t351 != 0) = true := bne_iff_ne.mpr c3
    simp only [Option.some.injEq, Prod.mk.injEq] at H
    obtain ⟨rfl, rfl, rfl, rfl, rfl, rfl, rfl⟩ := H
    go_enter Try.func20, Try.ntmps20
    go_wp2_with (first | ((with_reducible refine gate_dst (N := 2) rfl ?_); refine box_event ?hg (N := 2) ?hd (cs := #[.bool false, .bool false, .int .u32 0, .int .u32 0]) (t := 24) ?hr ?_; (case hd => rfl); (case hg => rfl); (case hr => (go_simp; done)); intro gb345 hg w58 hbox hb; have n0_ := Aside0.mk (below_step (by exact HB.out) hb); have n1_ := Aside0.mk (hbox); have n2_ := Aside0.mk ((by rw [hg]; exact (below_size (by exact HB.out)) : w.heap.size ≤ gb345)); have n3_ := Aside0.mk ((by rw [hg]; exact (below_size (by exact HB.out)) : w.heap.size ≤ gb345)); clear HB; have HB := n0_; have BK345 := n1_; have GW345 := n2_; have GE345 := n3_; clear n0_ n1_ n2_ n3_; clear hb hbox hg) | ((with_reducible refine gate_dst (N := 4) rfl ?_); refine box_event ?hg (N := 4) ?hd (cs := #[.int .i64 0, .int .i64 0]) (t := 36) ?hr ?_; (case hd => rfl); (case hg => rfl); (case hr => (go_simp; done)); intro gb346 hg w59 hbox hb; have n0_ := Aside0.mk (blk_below (g := gb345) (o := .cells #[.bool false, .bool false, .int .u32 0, .int .u32 0] 24 (0, 0)) (by exact BK345.out) hb); have n1_ := Aside0.mk (below_step (by exact HB.out) hb); have n2_ := Aside0.mk (hbox); have n3_ := Aside0.mk ((by rw [hg]; exact (below_size (by exact HB.out)) : w.heap.size ≤ gb346)); have n4_ := Aside0.mk ((by rw [hg]; exact (below_size (by exact HB.out)) : w.heap.size ≤ gb346)); have n5_ := Aside0.mk ((by rw [hg]; exact Nat.ne_of_lt (blk_lt (g := gb345) (o := .cells #[.bool false, .bool false, .int .u32 0, .int .u32 0] 24 (0, 0)) (by exact BK345.out)) : gb345 ≠ gb346)); have n6_ := Aside0.mk ((by rw [hg]; exact Nat.ne_of_gt (blk_lt (g := gb345) (o := .cells #[.bool false, .bool false, .int .u32 0, .int .u32 0] 24 (0, 0)) (by exact BK345.out)) : gb346 ≠ gb345)); clear BK345; clear HB; have BK345 := n0_; have HB := n1_; have BK346 := n2_; have GW346 := n3_; have GE346 := n4_; have NB345_346 := n5_; have NB346_345 := n6_; clear n0_ n1_ n2_ n3_ n4_ n5_ n6_; clear hb hbox hg) | ((with_reducible refine gate_callee (f := 22) rfl ?_); refine goesL_ (some 14) rfl rfl Try.func22 (by kernel_rfl) rfl #[.slice A0 l0.length c0] rfl (by (try simp only [List.map_toArray, List.map_cons, List.map_nil]); (rfl)) ?_; (with_reducible refine (umpireref09_Head.calls k _ _ l0 t347 t348 t349 t350 t351 _ ?side1 ?side2 A2.out).mono ?_); (case side1 => exact (Kd.C_below HR0.out HB.out)); (case side2 => exact HC0.out); rintro e w60 ⟨rfl, hb⟩; refine ⟨_, rfl, ?_⟩; have n0_ := Aside0.mk (blk_below (g := gb345) (o := .cells #[.bool false, .bool false, .int .u32 0, .int .u32 0] 24 (0, 0)) (by exact BK345.out) hb); have n1_ := Aside0.mk (blk_below (g := gb346) (o := .cells #[.int .i64 0, .int .i64 0] 36 (0, 0)) (by exact BK346.out) hb); have n2_ := Aside0.mk (below_step (by exact HB.out) hb); clear BK345; clear BK346; clear HB; have BK345 := n0_; have BK346 := n1_; have HB := n2_; clear n0_ n1_ n2_; (try clear hb)) | ((with_reducible refine gate_dst (N := 5) rfl ?_); refine box_event ?hg (N := 5) ?hd (cs := #[.bool false, .bool false, .int .u32 0, .int .u32 0]) (t := 24) ?hr ?_; (case hd => rfl); (case hg => rfl); (case hr => (go_simp; done)); intro gb352 hg w61 hbox hb; have n0_ := Aside0.mk (blk_below (g := gb345) (o := .cells #[.bool false, .bool false, .int .u32 0, .int .u32 0] 24 (0, 0)) (by exact BK345.out) hb); have n1_ := Aside0.mk (blk_below (g := gb346) (o := .cells #[.int .i64 0, .int .i64 0] 36 (0, 0)) (by exact BK346.out) hb); have n2_ := Aside0.mk (below_step (by exact HB.out) hb); have n3_ := Aside0.mk (hbox); have n4_ := Aside0.mk ((by rw [hg]; exact (below_size (by exact HB.out)) : w.heap.size ≤ gb352)); have n5_ := Aside0.mk ((by rw [hg]; exact (below_size (by exact HB.out)) : w.heap.size ≤ gb352)); have n6_ := Aside0.mk ((by rw [hg]; exact Nat.ne_of_lt (blk_lt (g := gb345) (o := .cells #[.bool false, .bool false, .int .u32 0, .int .u32 0] 24 (0, 0)) (by exact BK345.out)) : gb345 ≠ gb352)); have n7_ := Aside0.mk ((by rw [hg]; exact Nat.ne_of_gt (blk_lt (g := gb345) (o := .cells #[.bool false, .bool false, .int .u32 0, .int .u32 0] 24 (0, 0)) (by exact BK345.out)) : gb352 ≠ gb345)); have n8_ := Aside0.mk ((by rw [hg]; exact Nat.ne_of_lt (blk_lt (g := gb346) (o := .cells #[.int .i64 0, .int .i64 0] 36 (0, 0)) (by exact BK346.out)) : gb346 ≠ gb352)); have n9_ := Aside0.mk ((by rw [hg]; exact Nat.ne_of_gt (blk_lt (g := gb346) (o := .cells #[.int .i64 0, .int .i64 0] 36 (0, 0)) (by exact BK346.out)) : gb352 ≠ gb346)); clear BK345; clear BK346; clear HB; have BK345 := n0_; have BK346 := n1_; have HB := n2_; have BK352 := n3_; have GW352 := n4_; have GE352 := n5_; have NB345_352 := n6_; have NB352_345 := n7_; have NB346_352 := n8_; have NB352_346 := n9_; clear n0_ n1_ n2_ n3_ n4_ n5_ n6_ n7_ n8_ n9_; clear hb hbox hg; have hnb62 := NB352_345.out; have hnc62 := NB345_352.out; have hnb63 := NB352_346.out; have hnc63 := NB346_352.out; have hcz64_0 : w61.cell? ⟨gb352, 0, none⟩ = some (.bool false) := (blk_cell BK352.out 0).trans rfl; have hcz64_1 : w61.cell? ⟨gb352, 1, none⟩ = some (.bool false) := (blk_cell BK352.out 1).trans rfl; have hcz64_2 : w61.cell? ⟨gb352, 2, none⟩ = some (.int .u32 0) := (blk_cell BK352.out 2).trans rfl; have hcz64_3 : w61.cell? ⟨gb352, 3, none⟩ = some (.int .u32 0) := (blk_cell BK352.out 3).trans rfl; have hfz64_0 := blk_frozen BK352.out 0; have hfz64_1 := blk_frozen BK352.out 1; have hfz64_2 := blk_frozen BK352.out 2; have hfz64_3 := blk_frozen BK352.out 3; have hnb65 := NB345_346.out; have hnc65 := NB346_345.out; have hcz66_0 : w61.cell? ⟨gb345, 0, none⟩ = some (.bool false) := (blk_cell BK345.out 0).trans rfl; have hcz66_1 : w61.cell? ⟨gb345, 1, none⟩ = some (.bool false) := (blk_cell BK345.out 1).trans rfl; have hcz66_2 : w61.cell? ⟨gb345, 2, none⟩ = some (.int .u32 0) := (blk_cell BK345.out 2).trans rfl; have hcz66_3 : w61.cell? ⟨gb345, 3, none⟩ = some (.int .u32 0) := (blk_cell BK345.out 3).trans rfl; have hfz66_0 := blk_frozen BK345.out 0; have hfz66_1 := blk_frozen BK345.out 1; have hfz66_2 := blk_frozen BK345.out 2; have hfz66_3 := blk_frozen BK345.out 3; have hcz67_0 : w61.cell? ⟨gb346, 0, none⟩ = some (.int .i64 0) := (blk_cell BK346.out 0).trans rfl; have hcz67_1 : w61.cell? ⟨gb346, 1, none⟩ = some (.int .i64 0) := (blk_cell BK346.out 1).trans rfl; have hfz67_0 := blk_frozen BK346.out 0; have hfz67_1 := blk_frozen BK346.out 1))
    refine bodyPost_ret (results_list (rs := [.cell 2 24, .tmp 3, .cell 4 36]) rfl (by simp) (.cell gb345 24 #[.bool false, .bool false, .int .u32 0, .int .u32 0] (0, 0) _ rfl (by refine blk_far ?_ NB345_346.out _; refine blk_far ?_ NB345_346.out _; refine blk_put (cs := #[.bool false, .bool false, .int .u32 0, .int .u32 0]) ?_ 3 _ rfl; refine blk_put (cs := #[.bool false, .bool false, .int .u32 0, .int .u32 0]) ?_ 2 _ rfl; refine blk_put (cs := #[.bool false, .bool false, .int .u32 0, .int .u32 0]) ?_ 1 _ rfl; refine blk_put (cs := #[.bool false, .bool false, .int .u32 0, .int .u32 0]) ?_ 0 _ rfl; refine blk_far ?_ NB345_352.out _; refine blk_far ?_ NB345_352.out _; refine blk_far ?_ NB345_352.out _; refine blk_far ?_ NB345_352.out _; exact BK345.out) Try.underlying24 rfl (by kernel_rfl) (.tmp (.cell gb346 36 #[.int .i64 0, .int .i64 t351] (0, 0) _ rfl (by refine blk_put (cs := #[.int .i64 0, .int .i64 0]) ?_ 1 _ rfl; refine blk_put (cs := #[.int .i64 0, .int .i64 0]) ?_ 0 _ rfl; refine blk_far ?_ NB346_345.out _; refine blk_far ?_ NB346_345.out _; refine blk_far ?_ NB346_345.out _; refine blk_far ?_ NB346_345.out _; refine blk_far ?_ NB346_352.out _; refine blk_far ?_ NB346_352.out _; refine blk_far ?_ NB346_352.out _; refine blk_far ?_ NB346_352.out _; exact BK346.out) Try.underlying36 rfl (by kernel_rfl) .nil)))) rfl ?_
    exact ⟨_, by (rfl), by (exact Kd.S_nil _ _ _ _ _), by repeat (with_reducible first | exact HB.out | refine below_set ?_ GE345.out | refine below_set ?_ GE346.out | refine below_set ?_ GE352.out)⟩

end Go.Proofs.Ytnjimecjpnjojaa.Print
