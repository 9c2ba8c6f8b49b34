-- laid by this session's own program (wip/mkprint.sh) for this claim
import Derived.Test.Ytnjimecjpnjojaa0
import Derived.Test.YtnjimecjpnjojaaF44
import Derived.Test.YtnjimecjpnjojaaF45
namespace Go.Proofs.Ytnjimecjpnjojaa.Print
open Go.RowKit Go.Proofs.YtnjimecjpnjojaaW.PrintWords Go.Proofs.YtnjimecjpnjojaaW.PrintLast Go.Proofs.YtnjimecjpnjojaaW.PrintMore
attribute [local go_sem] max2_int min2_int max_two min_two max_three min_three max_four min_four   -- for this text's walks alone
set_option linter.unusedVariables false
set_option linter.unusedSimpArgs false

/-! ### pcap_Put: function 17 -/
mutual
def pcap_Put.j0 : Nat → List (S46) → Int → Bool → Bool → Int → Int → Option (List Int × Int)
  | 0, _, _, _, _, _, _ => none
  | k + 1, x1, x6, x120000, x120001, x120002, x120003 => (pcap_laid.f k x120000 4 ([x6] : List Int)).bind fun t123 => ((pcap_laid.f k x120000 2 ([2, 4] : List Int)).bind fun t129 => ((pcap_laid.f k x120000 4 ([0, 0, x120002, x120003] : List Int)).bind fun t135 => ((slices_Concat_byte_byte.f ([t123, t129, t135] : List (List Int))).bind fun t141 => (pcap_Put.l0 k t141 x1 (x1.length : Int) 0 x120000 x120001 x120002 x120003))))
def pcap_Put.l0 : Nat → List Int → List (S46) → Int → Int → Bool → Bool → Int → Int → Option (List Int × Int)
  | 0, _, _, _, _, _, _, _, _ => none
  | k + 1, x7, x31, x32, x33, x120000, x120001, x120002, x120003 => if x33 < x32 then (if 0 ≤ x33 then (if x33 < (x31.length : Int) then (if (((rd_T46 x31 x33).f3).length : Int) > 131072 then (some (([] : List Int), 4)) else ((pcap_laid.f k x120000 4 (([(rd_T46 x31 x33).f0, (rd_T46 x31 x33).f1, ((((rd_T46 x31 x33).f3).length : Int)) % 4294967296, (rd_T46 x31 x33).f2] : List Int))).bind fun t149 => (if x7.length + t149.length < 140737488355328 then ((some (x7 ++ t149 : List Int)).bind fun y152 => (if y152.length + ((rd_T46 x31 x33).f3).length < 140737488355328 then (pcap_Put.l0 k (y152 ++ ((rd_T46 x31 x33).f3)) x31 x32 (wrap64 (x33 + 1)) x120000 x120001 x120002 x120003) else (none))) else (none)))) else (none)) else (none)) else (some (x7, 0))
end
def pcap_Put.f (k : Nat) (a0_0 : Bool) (a0_1 : Bool) (a0_2 : Int) (a0_3 : Int) (l1 : List (S46)) : Option (List Int × Int) := if a0_1 = true then (pcap_Put.j0 k l1 2712812621 a0_0 a0_1 a0_2 a0_3) else (pcap_Put.j0 k l1 2712847316 a0_0 a0_1 a0_2 a0_3)
theorem pcap_Put.mono_l : ∀ k, (∀ y0 y1 y2 y3 y4 y5, LeO (pcap_Put.j0 k y0 y1 y2 y3 y4 y5) (pcap_Put.j0 (k + 1) y0 y1 y2 y3 y4 y5)) ∧ (∀ y0 y1 y2 y3 y4 y5 y6 y7, LeO (pcap_Put.l0 k y0 y1 y2 y3 y4 y5 y6 y7) (pcap_Put.l0 (k + 1) y0 y1 y2 y3 y4 y5 y6 y7))
  | 0 => ⟨fun _ _ _ _ _ _ r h => by simp [pcap_Put.j0] at h, fun _ _ _ _ _ _ _ _ r h => by simp [pcap_Put.l0] at h⟩
  | k + 1 => by
    obtain ⟨ih0, ih1⟩ := pcap_Put.mono_l k
    refine ⟨?_, ?_⟩
    · intro y0 y1 y2 y3 y4 y5
      unfold pcap_Put.j0
      repeat' first | (with_reducible exact ih1 _ _ _ _ _ _ _ _) | (with_reducible exact pcap_laid.mono _ _ _ _) | (with_reducible exact LeO.refl _) | (with_reducible refine LeO.bind ?_ (fun _ => ?_))
    · intro y0 y1 y2 y3 y4 y5 y6 y7
      unfold pcap_Put.l0
      repeat' first | (with_reducible exact ih1 _ _ _ _ _ _ _ _) | (with_reducible exact pcap_laid.mono _ _ _ _) | (with_reducible exact LeO.refl _) | (with_reducible refine LeO.ite ?_ ?_) | (with_reducible refine LeO.bind ?_ (fun _ => ?_))
theorem pcap_Put.mono : ∀ a0 a1 a2 a3 a4 k, LeO (pcap_Put.f k a0 a1 a2 a3 a4) (pcap_Put.f (k + 1) a0 a1 a2 a3 a4) := by
  intro a0 a1 a2 a3 a4 k
  obtain ⟨ih0, ih1⟩ := pcap_Put.mono_l k
  unfold pcap_Put.f
  repeat' first | (with_reducible exact ih0 _ _ _ _ _ _) | (with_reducible refine LeO.ite ?_ ?_)
def pcap_Put.T4 : Bool × List (List Nat × List Nat) := (true, [([], []), ([0], [0]), ([], []), ([2], [2]), ([1, 3], [1, 3]), ([], []), ([5], [5]), ([], []), ([6, 7, 4], [6, 7]), ([], []), ([9], [9]), ([], []), ([11], [11]), ([], []), ([13], [13]), ([12, 14], [12, 14]), ([10, 15, 8], [10, 15]), ([4, 8, 16], [4, 8, 16]), ([17, 16], [17]), ([18, 18, 0, 1, 2, 3, 4, 5, 6, 7, 8, 9, 10, 11, 12, 13, 14, 15, 16, 17, 18], [18])])
def pcap_Put.B4 : List Nat := [0, 1, 0, 4, 15, 0, 32, 0, 255, 0, 512, 0, 2048, 0, 8192, 30720, 65535, 131071, 262143, 524287]
theorem pcap_Put.tab4 : rtab .any (opsOf Try.f17 4) = pcap_Put.T4 := by kernel_rfl
theorem pcap_Put.bits4 : waitsOk pcap_Put.T4.2 pcap_Put.B4 = true := by kernel_rfl
set_option maxHeartbeats 8000000 in
set_option maxRecDepth 100000 in
theorem pcap_Put.calls (k : Nat) (a0_0 : Bool) (a0_1 : Bool) (a0_2 : Int) (a0_3 : Int) (A1 : Option Addr) (c1 : Nat) (l1 : List (S46)) (r1 : List Int) (r2 : Int) (w : World) (hr1 : Kd.C k46 w A1 l1.length l1) (hc1 : l1.length ≤ c1) (h : pcap_Put.f k a0_0 a0_1 a0_2 a0_3 l1 = some (r1, r2)) :
    Calls Try.prog 17 #[.agg #[.bool a0_0, .bool a0_1, .int .u32 a0_2, .int .u32 a0_3], .slice A1 l1.length c1] w fun e w' => ∃ v0_ : Value, e = .returned (.tuple #[v0_, .int .i64 r2]) ∧ Kd.R (Kd.int .u8) 5 w' w.heap.size (fun _ => True) v0_ r1 ∧ Below w.heap.size w w' := by
  have hu24 := Try.underlying24
  have hu46 := Try.underlying46
  have HR1 := Aside0.mk hr1
  have HC1 := Aside0.mk hc1
  clear hr1 hc1
  have HB := Aside0.mk (Below.refl w.heap.size w)
  have H : (if a0_1 = true then (pcap_Put.j0 k l1 2712812621 a0_0 a0_1 a0_2 a0_3) else (pcap_Put.j0 k l1 2712847316 a0_0 a0_1 a0_2 a0_3)) = some (r1, r2) := h
  clear h
  have HC3 := Aside0.mk H
  clear H
  go_enter Try.func17, Try.ntmps17
  go_upto_if 11 with (first | ((with_reducible refine gate_dst (N := 2) rfl ?_); refine box_event ?hg (N := 2) ?hd (cs := #[.bool a0_0, .bool a0_1, .int .u32 a0_2, .int .u32 a0_3]) (t := 24) ?hr ?_; (case hd => rfl); (case hg => rfl); (case hr => (go_simp; done)); intro gb119 hg w4 hbox hb; have n0_ := Aside0.mk (below_step (by exact HB.out) hb); have n1_ := Aside0.mk (hbox); have n2_ := Aside0.mk ((by rw [hg]; exact (below_size (by exact HB.out)) : w.heap.size ≤ gb119)); have n3_ := Aside0.mk ((by rw [hg]; exact (below_size (by exact HB.out)) : w.heap.size ≤ gb119)); clear HB; have HB := n0_; have BK119 := n1_; have GW119 := n2_; have GE119 := n3_; clear n0_ n1_ n2_ n3_; clear hb hbox hg; have hcz5_0 : w4.cell? ⟨gb119, 0, none⟩ = some (.bool a0_0) := (blk_cell BK119.out 0).trans rfl; have hcz5_1 : w4.cell? ⟨gb119, 1, none⟩ = some (.bool a0_1) := (blk_cell BK119.out 1).trans rfl; have hcz5_2 : w4.cell? ⟨gb119, 2, none⟩ = some (.int .u32 a0_2) := (blk_cell BK119.out 2).trans rfl; have hcz5_3 : w4.cell? ⟨gb119, 3, none⟩ = some (.int .u32 a0_3) := (blk_cell BK119.out 3).trans rfl; have hfz5_0 := blk_frozen BK119.out 0; have hfz5_1 := blk_frozen BK119.out 1; have hfz5_2 := blk_frozen BK119.out 2; have hfz5_3 := blk_frozen BK119.out 3))
  (skip)
  go_cut [6] (fun v6 wc => ∃ (kq : Nat) (x6_2 : Int), v6 = .int .u32 x6_2 ∧ Aside0 (pcap_Put.j0 kq l1 x6_2 a0_0 a0_1 a0_2 a0_3 = some (r1, r2)) ∧ Aside0 (kq ≤ k) ∧ Aside0 (wc.heap[gb119]? = some (.cells #[.bool a0_0, .bool a0_1, .int .u32 a0_2, .int .u32 a0_3] 24 (0, 0))) ∧ Aside0 (Below w.heap.size w wc))
  case first =>
    have H := HC3.out
    clear HC3
    by_cases c6 : a0_1 = true
    · subst c6
      have H1 : (pcap_Put.j0 k l1 2712812621 a0_0 true a0_2 a0_3) = some (r1, r2) := by rw [if_pos rfl] at H; exact H
      clear H
      have H := H1
      clear H1
      have H' := Aside0.mk H
      clear H
      go_wp2
      go_meet
      case rel => exact ⟨_, (2712812621), (by (rfl)), H', ⟨by (omega)⟩, ⟨by exact BK119.out⟩, ⟨by exact HB.out⟩⟩
    · replace c6 := Bool.eq_false_iff.mpr c6
      subst c6
      have H1 : (pcap_Put.j0 k l1 2712847316 a0_0 false a0_2 a0_3) = some (r1, r2) := by rw [if_neg (show ¬ (false = true) by decide)] at H; exact H
      clear H
      have H := H1
      clear H1
      have H' := Aside0.mk H
      clear H
      go_wp2
      go_meet
      case rel => exact ⟨_, (2712847316), (by (rfl)), H', ⟨by (omega)⟩, ⟨by exact BK119.out⟩, ⟨by exact HB.out⟩⟩
  case rest =>
    clear HC3
    try clear hcz5_0
    try clear hcz5_1
    try clear hcz5_2
    try clear hcz5_3
    try clear hfz5_0
    try clear hfz5_1
    try clear hfz5_2
    try clear hfz5_3
    obtain ⟨kq, x6_2, rfl, HA, HJ2, BK119, HB⟩ := hcut
    cases kq with
    | zero => exact absurd HA.out (by simp [pcap_Put.j0])
    | succ kj2 =>
      have H := HA.out
      clear HA
      simp only [pcap_Put.j0] at H
      obtain ⟨y120, hy120⟩ : ∃ y_ : List Int, y_ = ([x6_2] : List Int) := ⟨_, rfl⟩
      replace H : ((pcap_laid.f kj2 a0_0 4 y120).bind fun t123 => ((pcap_laid.f kj2 a0_0 2 ([2, 4] : List Int)).bind fun t129 => ((pcap_laid.f kj2 a0_0 4 ([0, 0, a0_2, a0_3] : List Int)).bind fun t135 => ((slices_Concat_byte_byte.f ([t123, t129, t135] : List (List Int))).bind fun t141 => (pcap_Put.l0 kj2 t141 l1 (l1.length : Int) 0 a0_0 a0_1 a0_2 a0_3))))) = some (r1, r2) := by (rw [hy120]; with_reducible exact H)
      have Ny120 := Aside0.mk hy120
      clear hy120
      replace H := Option.bind_eq_some_iff.mp H
      obtain ⟨t123, A70, H⟩ := H
      replace H : ((pcap_laid.f kj2 a0_0 2 ([2, 4] : List Int)).bind fun t129 => ((pcap_laid.f kj2 a0_0 4 ([0, 0, a0_2, a0_3] : List Int)).bind fun t135 => ((slices_Concat_byte_byte.f ([t123, t129, t135] : List (List Int))).bind fun t141 => (pcap_Put.l0 kj2 t141 l1 (l1.length : Int) 0 a0_0 a0_1 a0_2 a0_3)))) = some (r1, r2) := H
      have A7 := Aside0.mk A70
      clear A70
      obtain ⟨y126, hy126⟩ : ∃ y_ : List Int, y_ = ([2, 4] : List Int) := ⟨_, rfl⟩
      replace H : ((pcap_laid.f kj2 a0_0 2 y126).bind fun t129 => ((pcap_laid.f kj2 a0_0 4 ([0, 0, a0_2, a0_3] : List Int)).bind fun t135 => ((slices_Concat_byte_byte.f ([t123, t129, t135] : List (List Int))).bind fun t141 => (pcap_Put.l0 kj2 t141 l1 (l1.length : Int) 0 a0_0 a0_1 a0_2 a0_3)))) = some (r1, r2) := by (rw [hy126]; with_reducible exact H)
      have Ny126 := Aside0.mk hy126
      clear hy126
      replace H := Option.bind_eq_some_iff.mp H
      obtain ⟨t129, A80, H⟩ := H
      replace H : ((pcap_laid.f kj2 a0_0 4 ([0, 0, a0_2, a0_3] : List Int)).bind fun t135 => ((slices_Concat_byte_byte.f ([t123, t129, t135] : List (List Int))).bind fun t141 => (pcap_Put.l0 kj2 t141 l1 (l1.length : Int) 0 a0_0 a0_1 a0_2 a0_3))) = some (r1, r2) := H
      have A8 := Aside0.mk A80
      clear A80
      obtain ⟨y132, hy132⟩ : ∃ y_ : List Int, y_ = ([0, 0, a0_2, a0_3] : List Int) := ⟨_, rfl⟩
      replace H : ((pcap_laid.f kj2 a0_0 4 y132).bind fun t135 => ((slices_Concat_byte_byte.f ([t123, t129, t135] : List (List Int))).bind fun t141 => (pcap_Put.l0 kj2 t141 l1 (l1.length : Int) 0 a0_0 a0_1 a0_2 a0_3))) = some (r1, r2) := by (rw [hy132]; with_reducible exact H)
      have Ny132 := Aside0.mk hy132
      clear hy132
      replace H := Option.bind_eq_some_iff.mp H
      obtain ⟨t135, A90, H⟩ := H
      replace H : ((slices_Concat_byte_byte.f ([t123, t129, t135] : List (List Int))).bind fun t141 => (pcap_Put.l0 kj2 t141 l1 (l1.length : Int) 0 a0_0 a0_1 a0_2 a0_3)) = some (r1, r2) := H
      have A9 := Aside0.mk A90
      clear A90
      obtain ⟨y138, hy138⟩ : ∃ y_ : List (List Int), y_ = ([t123, t129, t135] : List (List Int)) := ⟨_, rfl⟩
      replace H : ((slices_Concat_byte_byte.f y138).bind fun t141 => (pcap_Put.l0 kj2 t141 l1 (l1.length : Int) 0 a0_0 a0_1 a0_2 a0_3)) = some (r1, r2) := by (rw [hy138]; with_reducible exact H)
      have Ny138 := Aside0.mk hy138
      clear hy138
      replace H := Option.bind_eq_some_iff.mp H
      obtain ⟨t141, A100, H⟩ := H
      replace H : (pcap_Put.l0 kj2 t141 l1 (l1.length : Int) 0 a0_0 a0_1 a0_2 a0_3) = some (r1, r2) := H
      have A10 := Aside0.mk A100
      clear A100
      have H' := Aside0.mk H
      clear H
      try go_wp2
      have n0_ := Aside0.mk (blk_drew BK119.out)
      have n1_ := Aside0.mk (below_drew1 HB.out)
      clear BK119
      clear HB
      have BK119 := n0_
      have HB := n1_
      clear n0_ n1_
      refine start_ (n := 20) (S := fun w' => True) (ds := []) #[false, false, false, false, false, false, false, false, false, false, false, false, false, false, false, false, false, false, false, false] (by kernel_rfl) rfl rfl trivial (fun hHeld => ?_); refine with_tabW pcap_Put.tab4 pcap_Put.bits4 (fun HT_ HW_ => ?_)
      generalize wc.drew = w11 at BK119 HB hHeld ⊢
      refine pure_ (i := 0) (N := some 12) (v := ?_) (a' := ?_) #[true, false, false, false, false, false, false, false, false, false, false, false, false, false, false, false, false, false, false, false] rfl rfl (any_of HT_.out (by kernel_rfl)) (fun _ _ _ h => h) (Or.inl ⟨by rfl, ?_⟩) ?_ ?_
      rotate_left
      · intro w'
        go_simp
        with_reducible rfl
      rotate_left
      · simp only [Act.put, List.setIfInBounds_toArray, List.set_cons_zero, List.set_cons_succ, i64_w, i32_w]
        rfl
      refine pure_ (i := 2) (N := some 14) (v := ?_) (a' := ?_) #[true, false, true, false, false, false, false, false, false, false, false, false, false, false, false, false, false, false, false, false] rfl rfl (any_of HT_.out (by kernel_rfl)) (fun _ _ _ h => h) (Or.inl ⟨by rfl, ?_⟩) ?_ ?_
      rotate_left
      · intro w'
        go_simp
        with_reducible rfl
      rotate_left
      · simp only [Act.put, List.setIfInBounds_toArray, List.set_cons_zero, List.set_cons_succ, i64_w, i32_w]
        rfl
      refine pure_ (i := 5) (N := some 17) (v := ?_) (a' := ?_) #[true, false, true, false, false, true, false, false, false, false, false, false, false, false, false, false, false, false, false, false] rfl rfl (any_of HT_.out (by kernel_rfl)) (fun _ _ _ h => h) (Or.inl ⟨by rfl, ?_⟩) ?_ ?_
      rotate_left
      · intro w'
        go_simp
        with_reducible rfl
      rotate_left
      · simp only [Act.put, List.setIfInBounds_toArray, List.set_cons_zero, List.set_cons_succ, i64_w, i32_w]
        rfl
      refine pure_ (i := 9) (N := some 21) (v := ?_) (a' := ?_) #[true, false, true, false, false, true, false, false, false, true, false, false, false, false, false, false, false, false, false, false] rfl rfl (any_of HT_.out (by kernel_rfl)) (fun _ _ _ h => h) (Or.inl ⟨by rfl, ?_⟩) ?_ ?_
      rotate_left
      · intro w'
        go_simp
        with_reducible rfl
      rotate_left
      · simp only [Act.put, List.setIfInBounds_toArray, List.set_cons_zero, List.set_cons_succ, i64_w, i32_w]
        rfl
      refine pure_ (i := 11) (N := some 23) (v := ?_) (a' := ?_) #[true, false, true, false, false, true, false, false, false, true, false, true, false, false, false, false, false, false, false, false] rfl rfl (any_of HT_.out (by kernel_rfl)) (fun _ _ _ h => h) (Or.inl ⟨by rfl, ?_⟩) ?_ ?_
      rotate_left
      · intro w'
        go_simp
        with_reducible rfl
      rotate_left
      · simp only [Act.put, List.setIfInBounds_toArray, List.set_cons_zero, List.set_cons_succ, i64_w, i32_w]
        rfl
      refine pure_ (i := 13) (N := some 25) (v := ?_) (a' := ?_) #[true, false, true, false, false, true, false, false, false, true, false, true, false, true, false, false, false, false, false, false] rfl rfl (any_of HT_.out (by kernel_rfl)) (fun _ _ _ h => h) (Or.inl ⟨by rfl, ?_⟩) ?_ ?_
      rotate_left
      · intro w'
        go_simp
        with_reducible rfl
      rotate_left
      · simp only [Act.put, List.setIfInBounds_toArray, List.set_cons_zero, List.set_cons_succ, i64_w, i32_w]
        rfl
      refine inv_at [1, 3, 4, 6, 7, 8, 10, 12, 14, 15, 16, 17, 18, 19] (fun a0_ b a w' => ∃ (v121 : Value) (v124 : Value) (v127 : Value) (v130 : Value) (v133 : Value) (v136 : Value) (v139 : Value) (v142 : Value) (m19_ : Value), a = putSel a0_ b [(1, 13, .bool a0_0), (3, 15, v121), (4, 16, v124), (6, 18, .bool a0_0), (7, 19, v127), (8, 20, v130), (10, 22, .bool a0_0), (12, 24, .int .u32 a0_2), (14, 26, .int .u32 a0_3), (15, 27, v133), (16, 28, v136), (17, 29, v139), (18, 30, v142), (19, 7, m19_)] ∧ (w'.heap[gb119]? = some (.cells #[.bool a0_0, .bool a0_1, .int .u32 a0_2, .int .u32 a0_3] 24 (0, 0))) ∧ (Below w.heap.size w w') ∧ (b 3 = true → Kd.R (Kd.int .u32) 22 w' w.heap.size (fun _ => True) v121 y120) ∧ (b 4 = true → b 17 = false → Kd.R (Kd.int .u8) 5 w' w.heap.size (fun _ => True) v124 t123) ∧ (b 7 = true → Kd.R (Kd.int .u32) 22 w' w.heap.size (fun _ => True) v127 y126) ∧ (b 8 = true → b 17 = false → Kd.R (Kd.int .u8) 5 w' w.heap.size (fun _ => True) v130 t129) ∧ (b 15 = true → Kd.R (Kd.int .u32) 22 w' w.heap.size (fun _ => True) v133 y132) ∧ (b 16 = true → b 17 = false → Kd.R (Kd.int .u8) 5 w' w.heap.size (fun _ => True) v136 t135) ∧ (b 17 = true → Kd.N (Kd.slice 5 (Kd.int .u8)) 28 w' w.heap.size (fun k_ => k_ ≠ gb119) v139 y138) ∧ (b 18 = true → Kd.R (Kd.int .u8) 5 w' w.heap.size (fun _ => True) v142 t141) ∧ (b 19 = true → (m19_ : Value) = v142)) HT_.out HW_.out (by kernel_rfl) (by kernel_rfl) ?_ ?_ ?_
      · exact ⟨.bool false, .bool false, .bool false, .bool false, .bool false, .bool false, .bool false, .bool false, .bool false, by simp only [putSel, Bool.false_eq_true, if_false], BK119.out, HB.out, fun h_ => absurd h_ (by decide), fun h_ => absurd h_ (by decide), fun h_ => absurd h_ (by decide), fun h_ => absurd h_ (by decide), fun h_ => absurd h_ (by decide), fun h_ => absurd h_ (by decide), fun h_ => absurd h_ (by decide), fun h_ => absurd h_ (by decide), fun h_ => absurd h_ (by decide)⟩
      · skip
        clear BK119 HB
        refine steps_cons ?_ ?_
        · rintro b a w' ⟨v121, v124, v127, v130, v133, v136, v139, v142, m19_, ha, Q_BK119, Q_HB, Q_HO122, Q_HO125, Q_HO128, Q_HO131, Q_HO134, Q_HO137, Q_HO140, Q_HO143, Q_X19_⟩ hb_ hon hoff
          refine ⟨_, rfl, fun K hK => ?_⟩
          have e12 : a.tmps[12]? = some (.pointer (some ⟨gb119, 0, none⟩)) := by rw [ha]; exact (putSel_off rfl).trans rfl
          replace ha := Aside0.mk ha
          have BK119 := Aside0.mk Q_BK119
          have HB := Aside0.mk Q_HB
          have hc0_ : w'.cell? ⟨gb119, 0, none⟩ = some (.bool a0_0) := (blk_cell BK119.out 0).trans rfl
          have hc1_ : w'.cell? ⟨gb119, 1, none⟩ = some (.bool a0_1) := (blk_cell BK119.out 1).trans rfl
          have hc2_ : w'.cell? ⟨gb119, 2, none⟩ = some (.int .u32 a0_2) := (blk_cell BK119.out 2).trans rfl
          have hc3_ : w'.cell? ⟨gb119, 3, none⟩ = some (.int .u32 a0_3) := (blk_cell BK119.out 3).trans rfl
          refine value_ (w1 := w') (v := .bool a0_0) (by rfl) rfl ?_ ?_
          · go_simp
            (skip)
          refine hK.out _ _ ⟨v121, v124, v127, v130, v133, v136, v139, v142, m19_, (by rw [ha.out]; exact putSel_upk 0 hb_ rfl rfl rfl), Q_BK119, Q_HB, Q_HO122, fun h0_ _ => absurd ((hoff 4 (by kernel_rfl)).symm.trans h0_) (by decide), Q_HO128, fun h0_ _ => absurd ((hoff 8 (by kernel_rfl)).symm.trans h0_) (by decide), Q_HO134, fun h0_ _ => absurd ((hoff 16 (by kernel_rfl)).symm.trans h0_) (by decide), fun h0_ => absurd ((hoff 17 (by kernel_rfl)).symm.trans h0_) (by decide), fun h0_ => absurd ((hoff 18 (by kernel_rfl)).symm.trans h0_) (by decide), fun h0_ => absurd ((hoff 19 (by kernel_rfl)).symm.trans h0_) (by decide)⟩
        refine steps_cons ?_ ?_
        · rintro b a w' ⟨v121, v124, v127, v130, v133, v136, v139, v142, m19_, ha, Q_BK119, Q_HB, Q_HO122, Q_HO125, Q_HO128, Q_HO131, Q_HO134, Q_HO137, Q_HO140, Q_HO143, Q_X19_⟩ hb_ hon hoff
          refine ⟨_, rfl, fun K hK => ?_⟩
          have e14 : a.tmps[14]? = some (.int .u32 x6_2) := by rw [ha]; exact (putSel_off rfl).trans rfl
          replace ha := Aside0.mk ha
          have BK119 := Aside0.mk Q_BK119
          have HB := Aside0.mk Q_HB
          refine Kd.R_lit_step (Kd.int .u32) _ 22 ?hg (N := 15) ?hd (xs := ([x6_2] : List Int)) (inner := [.int .u32 x6_2]) (ok := fun _ => True) (okp := fun _ => True) ?hr ?hp (fun _ hk => hk) trivial (Below.refl _ _) (Nat.le_refl _) (by simp) ?_; (case hd => rfl); (case hg => rfl); (case hr => (go_simp; done)); (case hp => exact (Reps.one (show Kd.M (Kd.int .u32) _ _ _ x6_2 [.int .u32 x6_2] from rfl) (Reps.none _ _)))
          intro v121 w12 ho13 hb hg_ hnew_
          clear hg_ hnew_
          (rw [← Ny120.out] at ho13)
          have n0_ := Aside0.mk (Kd.R_lower ho13 (below_size (by exact HB.out)))
          have n1_ := Aside0.mk (blk_below (g := gb119) (o := .cells #[.bool a0_0, .bool a0_1, .int .u32 a0_2, .int .u32 a0_3] 24 (0, 0)) (by exact BK119.out) hb)
          have n2_ := Aside0.mk (below_step (by exact HB.out) hb)
          have z_HO128 := fun (h0_ : b 7 = true) => (show Kd.R (Kd.int .u32) 22 w12 w.heap.size (fun _ => True) v127 y126 from by (exact Kd.R_mono (Kd.R_elder' (by exact (Q_HO128 h0_)) (by (exact Kd.R_base ho13)) hb) (fun _ h_ => by (trivial))))
          have z_HO134 := fun (h0_ : b 15 = true) => (show Kd.R (Kd.int .u32) 22 w12 w.heap.size (fun _ => True) v133 y132 from by (exact Kd.R_mono (Kd.R_elder' (by exact (Q_HO134 h0_)) (by (exact Kd.R_base ho13)) hb) (fun _ h_ => by (trivial))))
          clear BK119
          clear HB
          have HO122 := n0_
          have BK119 := n1_
          have HB := n2_
          clear n0_ n1_ n2_
          clear hb ho13
          refine hK.out _ _ ⟨v121, v124, v127, v130, v133, v136, v139, v142, m19_, (by rw [ha.out]; exact putSel_upk 1 hb_ rfl rfl rfl), (by exact BK119.out), (by exact HB.out), fun _ => (by (exact HO122.out)), fun h0_ _ => absurd ((hoff 4 (by kernel_rfl)).symm.trans h0_) (by decide), z_HO128, fun h0_ _ => absurd ((hoff 8 (by kernel_rfl)).symm.trans h0_) (by decide), z_HO134, fun h0_ _ => absurd ((hoff 16 (by kernel_rfl)).symm.trans h0_) (by decide), fun h0_ => absurd ((hoff 17 (by kernel_rfl)).symm.trans h0_) (by decide), fun h0_ => absurd ((hoff 18 (by kernel_rfl)).symm.trans h0_) (by decide), fun h0_ => absurd ((hoff 19 (by kernel_rfl)).symm.trans h0_) (by decide)⟩
        refine steps_cons ?_ ?_
        · rintro b a w' ⟨v121, v124, v127, v130, v133, v136, v139, v142, m19_, ha, Q_BK119, Q_HB, Q_HO122, Q_HO125, Q_HO128, Q_HO131, Q_HO134, Q_HO137, Q_HO140, Q_HO143, Q_X19_⟩ hb_ hon hoff
          refine ⟨_, rfl, fun K hK => ?_⟩
          have e13 : a.tmps[13]? = some (.bool a0_0) := by rw [ha]; exact putSel_on (e := (1, 13, .bool a0_0)) 0 rfl rfl (hon 1 (by kernel_rfl)) rfl
          have e15 : a.tmps[15]? = some (v121) := by rw [ha]; exact putSel_on (e := (3, 15, v121)) 1 rfl rfl (hon 3 (by kernel_rfl)) rfl
          replace ha := Aside0.mk ha
          have BK119 := Aside0.mk Q_BK119
          have HB := Aside0.mk Q_HB
          have HO122 := Aside0.mk (Q_HO122 (hon 3 (by kernel_rfl)))
          obtain ⟨Ao15, co15, eo15⟩ := Kd.R_slice HO122.out
          (subst eo15)
          refine goes_ Try.func45 (by kernel_rfl) rfl #[.bool a0_0, .int .i64 4, .slice Ao15 y120.length co15] (by rfl) rfl rfl (by (simp only [List.map_toArray, List.map_cons, List.map_nil, Act.eval, Array.getD_eq_getD_getElem?, Option.getD_some, e13, e15]; done)) ?_
          with_reducible refine (pcap_laid.calls kj2 a0_0 4 _ _ y120 t123 _ ?side1 ?side2 A7.out).mono ?_
          (case side1 => exact (Kd.R_reads' HO122.out).2.2)
          (case side2 => exact (Kd.R_reads' HO122.out).2.1)
          rintro e w16 ⟨v124, rfl, ho0, hb⟩
          refine ⟨_, rfl, ?_⟩
          have n0_ := Aside0.mk (Kd.R_below (by (exact HO122.out)) hb)
          have n1_ := Aside0.mk (Kd.R_lower ho0 (below_size (by exact HB.out)))
          have n2_ := Aside0.mk (blk_below (g := gb119) (o := .cells #[.bool a0_0, .bool a0_1, .int .u32 a0_2, .int .u32 a0_3] 24 (0, 0)) (by exact BK119.out) hb)
          have n3_ := Aside0.mk (below_step (by exact HB.out) hb)
          have z_HO128 := fun (h0_ : b 7 = true) => (show Kd.R (Kd.int .u32) 22 w16 w.heap.size (fun _ => True) v127 y126 from by (exact (Kd.R_below (by exact (Q_HO128 h0_)) hb)))
          have z_HO134 := fun (h0_ : b 15 = true) => (show Kd.R (Kd.int .u32) 22 w16 w.heap.size (fun _ => True) v133 y132 from by (exact (Kd.R_below (by exact (Q_HO134 h0_)) hb)))
          clear HO122
          clear BK119
          clear HB
          have HO122 := n0_
          have HO125 := n1_
          have BK119 := n2_
          have HB := n3_
          clear n0_ n1_ n2_ n3_
          (try clear hb)
          (skip)
          (skip)
          (skip)
          (try clear ho0)
          refine hK.out _ _ ⟨.slice Ao15 y120.length co15, v124, v127, v130, v133, v136, v139, v142, m19_, (by rw [ha.out]; exact putSel_upk 2 hb_ rfl rfl rfl), (by exact BK119.out), (by exact HB.out), fun _ => (by (exact HO122.out)), fun _ _ => (by (exact HO125.out)), z_HO128, fun h0_ _ => absurd ((hoff 8 (by kernel_rfl)).symm.trans h0_) (by decide), z_HO134, fun h0_ _ => absurd ((hoff 16 (by kernel_rfl)).symm.trans h0_) (by decide), fun h0_ => absurd ((hoff 17 (by kernel_rfl)).symm.trans h0_) (by decide), fun h0_ => absurd ((hoff 18 (by kernel_rfl)).symm.trans h0_) (by decide), fun h0_ => absurd ((hoff 19 (by kernel_rfl)).symm.trans h0_) (by decide)⟩
        refine steps_cons ?_ ?_
        · rintro b a w' ⟨v121, v124, v127, v130, v133, v136, v139, v142, m19_, ha, Q_BK119, Q_HB, Q_HO122, Q_HO125, Q_HO128, Q_HO131, Q_HO134, Q_HO137, Q_HO140, Q_HO143, Q_X19_⟩ hb_ hon hoff
          refine ⟨_, rfl, fun K hK => ?_⟩
          have e17 : a.tmps[17]? = some (.pointer (some ⟨gb119, 0, none⟩)) := by rw [ha]; exact (putSel_off rfl).trans rfl
          replace ha := Aside0.mk ha
          have BK119 := Aside0.mk Q_BK119
          have HB := Aside0.mk Q_HB
          have hc0_ : w'.cell? ⟨gb119, 0, none⟩ = some (.bool a0_0) := (blk_cell BK119.out 0).trans rfl
          have hc1_ : w'.cell? ⟨gb119, 1, none⟩ = some (.bool a0_1) := (blk_cell BK119.out 1).trans rfl
          have hc2_ : w'.cell? ⟨gb119, 2, none⟩ = some (.int .u32 a0_2) := (blk_cell BK119.out 2).trans rfl
          have hc3_ : w'.cell? ⟨gb119, 3, none⟩ = some (.int .u32 a0_3) := (blk_cell BK119.out 3).trans rfl
          refine value_ (w1 := w') (v := .bool a0_0) (by rfl) rfl ?_ ?_
          · go_simp
            (skip)
          refine hK.out _ _ ⟨v121, v124, v127, v130, v133, v136, v139, v142, m19_, (by rw [ha.out]; exact putSel_upk 3 hb_ rfl rfl rfl), Q_BK119, Q_HB, Q_HO122, Q_HO125, Q_HO128, fun h0_ _ => absurd ((hoff 8 (by kernel_rfl)).symm.trans h0_) (by decide), Q_HO134, fun h0_ _ => absurd ((hoff 16 (by kernel_rfl)).symm.trans h0_) (by decide), fun h0_ => absurd ((hoff 17 (by kernel_rfl)).symm.trans h0_) (by decide), fun h0_ => absurd ((hoff 18 (by kernel_rfl)).symm.trans h0_) (by decide), fun h0_ => absurd ((hoff 19 (by kernel_rfl)).symm.trans h0_) (by decide)⟩
        refine steps_cons ?_ ?_
        · rintro b a w' ⟨v121, v124, v127, v130, v133, v136, v139, v142, m19_, ha, Q_BK119, Q_HB, Q_HO122, Q_HO125, Q_HO128, Q_HO131, Q_HO134, Q_HO137, Q_HO140, Q_HO143, Q_X19_⟩ hb_ hon hoff
          refine ⟨_, rfl, fun K hK => ?_⟩
          replace ha := Aside0.mk ha
          have BK119 := Aside0.mk Q_BK119
          have HB := Aside0.mk Q_HB
          refine Kd.R_lit_step (Kd.int .u32) _ 22 ?hg (N := 19) ?hd (xs := ([2, 4] : List Int)) (inner := [.int .u32 2, .int .u32 4]) (ok := fun _ => True) (okp := fun _ => True) ?hr ?hp (fun _ hk => hk) trivial (Below.refl _ _) (Nat.le_refl _) (by simp) ?_; (case hd => rfl); (case hg => rfl); (case hr => (go_simp; done)); (case hp => exact (Reps.one (show Kd.M (Kd.int .u32) _ _ _ 2 [.int .u32 2] from rfl) (Reps.one (show Kd.M (Kd.int .u32) _ _ _ 4 [.int .u32 4] from rfl) (Reps.none _ _))))
          intro v127 w12 ho13 hb hg_ hnew_
          clear hg_ hnew_
          (rw [← Ny126.out] at ho13)
          have n0_ := Aside0.mk (Kd.R_lower ho13 (below_size (by exact HB.out)))
          have n1_ := Aside0.mk (blk_below (g := gb119) (o := .cells #[.bool a0_0, .bool a0_1, .int .u32 a0_2, .int .u32 a0_3] 24 (0, 0)) (by exact BK119.out) hb)
          have n2_ := Aside0.mk (below_step (by exact HB.out) hb)
          have z_HO122 := fun (h0_ : b 3 = true) => (show Kd.R (Kd.int .u32) 22 w12 w.heap.size (fun _ => True) v121 y120 from by (exact Kd.R_mono (Kd.R_elder' (by exact (Q_HO122 h0_)) (by (exact Kd.R_base ho13)) hb) (fun _ h_ => by (trivial))))
          have z_HO125 := fun (h0_ : b 4 = true) (h1_ : b 17 = false) => (show Kd.R (Kd.int .u8) 5 w12 w.heap.size (fun _ => True) v124 t123 from by (exact (Kd.R_below (by exact (Q_HO125 h0_ h1_)) hb)))
          have z_HO134 := fun (h0_ : b 15 = true) => (show Kd.R (Kd.int .u32) 22 w12 w.heap.size (fun _ => True) v133 y132 from by (exact Kd.R_mono (Kd.R_elder' (by exact (Q_HO134 h0_)) (by (exact Kd.R_base ho13)) hb) (fun _ h_ => by (trivial))))
          clear BK119
          clear HB
          have HO128 := n0_
          have BK119 := n1_
          have HB := n2_
          clear n0_ n1_ n2_
          clear hb ho13
          refine hK.out _ _ ⟨v121, v124, v127, v130, v133, v136, v139, v142, m19_, (by rw [ha.out]; exact putSel_upk 4 hb_ rfl rfl rfl), (by exact BK119.out), (by exact HB.out), z_HO122, z_HO125, fun _ => (by (exact HO128.out)), fun h0_ _ => absurd ((hoff 8 (by kernel_rfl)).symm.trans h0_) (by decide), z_HO134, fun h0_ _ => absurd ((hoff 16 (by kernel_rfl)).symm.trans h0_) (by decide), fun h0_ => absurd ((hoff 17 (by kernel_rfl)).symm.trans h0_) (by decide), fun h0_ => absurd ((hoff 18 (by kernel_rfl)).symm.trans h0_) (by decide), fun h0_ => absurd ((hoff 19 (by kernel_rfl)).symm.trans h0_) (by decide)⟩
        refine steps_cons ?_ ?_
        · rintro b a w' ⟨v121, v124, v127, v130, v133, v136, v139, v142, m19_, ha, Q_BK119, Q_HB, Q_HO122, Q_HO125, Q_HO128, Q_HO131, Q_HO134, Q_HO137, Q_HO140, Q_HO143, Q_X19_⟩ hb_ hon hoff
          refine ⟨_, rfl, fun K hK => ?_⟩
          have e18 : a.tmps[18]? = some (.bool a0_0) := by rw [ha]; exact putSel_on (e := (6, 18, .bool a0_0)) 3 rfl rfl (hon 6 (by kernel_rfl)) rfl
          have e19 : a.tmps[19]? = some (v127) := by rw [ha]; exact putSel_on (e := (7, 19, v127)) 4 rfl rfl (hon 7 (by kernel_rfl)) rfl
          replace ha := Aside0.mk ha
          have BK119 := Aside0.mk Q_BK119
          have HB := Aside0.mk Q_HB
          have HO122 := Aside0.mk (Q_HO122 (hon 3 (by kernel_rfl)))
          have HO125 := Aside0.mk (Q_HO125 (hon 4 (by kernel_rfl)) (hoff 17 (by kernel_rfl)))
          have HO128 := Aside0.mk (Q_HO128 (hon 7 (by kernel_rfl)))
          obtain ⟨Ao19, co19, eo19⟩ := Kd.R_slice HO128.out
          (subst eo19)
          refine goes_ Try.func45 (by kernel_rfl) rfl #[.bool a0_0, .int .i64 2, .slice Ao19 y126.length co19] (by rfl) rfl rfl (by (simp only [List.map_toArray, List.map_cons, List.map_nil, Act.eval, Array.getD_eq_getD_getElem?, Option.getD_some, e18, e19]; done)) ?_
          with_reducible refine (pcap_laid.calls kj2 a0_0 2 _ _ y126 t129 _ ?side1 ?side2 A8.out).mono ?_
          (case side1 => exact (Kd.R_reads' HO128.out).2.2)
          (case side2 => exact (Kd.R_reads' HO128.out).2.1)
          rintro e w20 ⟨v130, rfl, ho0, hb⟩
          refine ⟨_, rfl, ?_⟩
          have n0_ := Aside0.mk (Kd.R_below (by (exact HO122.out)) hb)
          have n1_ := Aside0.mk (Kd.R_elder' (by (exact HO125.out)) (by (exact Kd.R_base ho0)) hb)
          have n2_ := Aside0.mk (Kd.R_below (by (exact HO128.out)) hb)
          have n3_ := Aside0.mk (Kd.R_lower (Kd.R_new' ho0 (Kd.R_lt (by (exact HO125.out)))) (below_size (by exact HB.out)))
          have n4_ := Aside0.mk (blk_below (g := gb119) (o := .cells #[.bool a0_0, .bool a0_1, .int .u32 a0_2, .int .u32 a0_3] 24 (0, 0)) (by exact BK119.out) hb)
          have n5_ := Aside0.mk (below_step (by exact HB.out) hb)
          have z_HO134 := fun (h0_ : b 15 = true) => (show Kd.R (Kd.int .u32) 22 w20 w.heap.size (fun _ => True) v133 y132 from by (exact (Kd.R_below (by exact (Q_HO134 h0_)) hb)))
          clear HO122
          clear HO125
          clear HO128
          clear BK119
          clear HB
          have HO122 := n0_
          have HO125 := n1_
          have HO128 := n2_
          have HO131 := n3_
          have BK119 := n4_
          have HB := n5_
          clear n0_ n1_ n2_ n3_ n4_ n5_
          (try clear hb)
          (skip)
          (skip)
          (skip)
          (try clear ho0)
          refine hK.out _ _ ⟨v121, v124, .slice Ao19 y126.length co19, v130, v133, v136, v139, v142, m19_, (by rw [ha.out]; exact putSel_upk 5 hb_ rfl rfl rfl), (by exact BK119.out), (by exact HB.out), fun _ => (by (exact HO122.out)), fun _ _ => (by (exact Kd.R_mono HO125.out (fun _ hk => trivial))), fun _ => (by (exact HO128.out)), fun _ _ => (by (exact Kd.R_mono HO131.out (fun _ hk => trivial))), z_HO134, fun h0_ _ => absurd ((hoff 16 (by kernel_rfl)).symm.trans h0_) (by decide), fun h0_ => absurd ((hoff 17 (by kernel_rfl)).symm.trans h0_) (by decide), fun h0_ => absurd ((hoff 18 (by kernel_rfl)).symm.trans h0_) (by decide), fun h0_ => absurd ((hoff 19 (by kernel_rfl)).symm.trans h0_) (by decide)⟩
        refine steps_cons ?_ ?_
        · rintro b a w' ⟨v121, v124, v127, v130, v133, v136, v139, v142, m19_, ha, Q_BK119, Q_HB, Q_HO122, Q_HO125, Q_HO128, Q_HO131, Q_HO134, Q_HO137, Q_HO140, Q_HO143, Q_X19_⟩ hb_ hon hoff
          refine ⟨_, rfl, fun K hK => ?_⟩
          have e21 : a.tmps[21]? = some (.pointer (some ⟨gb119, 0, none⟩)) := by rw [ha]; exact (putSel_off rfl).trans rfl
          replace ha := Aside0.mk ha
          have BK119 := Aside0.mk Q_BK119
          have HB := Aside0.mk Q_HB
          have hc0_ : w'.cell? ⟨gb119, 0, none⟩ = some (.bool a0_0) := (blk_cell BK119.out 0).trans rfl
          have hc1_ : w'.cell? ⟨gb119, 1, none⟩ = some (.bool a0_1) := (blk_cell BK119.out 1).trans rfl
          have hc2_ : w'.cell? ⟨gb119, 2, none⟩ = some (.int .u32 a0_2) := (blk_cell BK119.out 2).trans rfl
          have hc3_ : w'.cell? ⟨gb119, 3, none⟩ = some (.int .u32 a0_3) := (blk_cell BK119.out 3).trans rfl
          refine value_ (w1 := w') (v := .bool a0_0) (by rfl) rfl ?_ ?_
          · go_simp
            (skip)
          refine hK.out _ _ ⟨v121, v124, v127, v130, v133, v136, v139, v142, m19_, (by rw [ha.out]; exact putSel_upk 6 hb_ rfl rfl rfl), Q_BK119, Q_HB, Q_HO122, Q_HO125, Q_HO128, Q_HO131, Q_HO134, fun h0_ _ => absurd ((hoff 16 (by kernel_rfl)).symm.trans h0_) (by decide), fun h0_ => absurd ((hoff 17 (by kernel_rfl)).symm.trans h0_) (by decide), fun h0_ => absurd ((hoff 18 (by kernel_rfl)).symm.trans h0_) (by decide), fun h0_ => absurd ((hoff 19 (by kernel_rfl)).symm.trans h0_) (by decide)⟩
        refine steps_cons ?_ ?_
        · rintro b a w' ⟨v121, v124, v127, v130, v133, v136, v139, v142, m19_, ha, Q_BK119, Q_HB, Q_HO122, Q_HO125, Q_HO128, Q_HO131, Q_HO134, Q_HO137, Q_HO140, Q_HO143, Q_X19_⟩ hb_ hon hoff
          refine ⟨_, rfl, fun K hK => ?_⟩
          have e23 : a.tmps[23]? = some (.pointer (some ⟨gb119, 2, none⟩)) := by rw [ha]; exact (putSel_off rfl).trans rfl
          replace ha := Aside0.mk ha
          have BK119 := Aside0.mk Q_BK119
          have HB := Aside0.mk Q_HB
          have hc0_ : w'.cell? ⟨gb119, 0, none⟩ = some (.bool a0_0) := (blk_cell BK119.out 0).trans rfl
          have hc1_ : w'.cell? ⟨gb119, 1, none⟩ = some (.bool a0_1) := (blk_cell BK119.out 1).trans rfl
          have hc2_ : w'.cell? ⟨gb119, 2, none⟩ = some (.int .u32 a0_2) := (blk_cell BK119.out 2).trans rfl
          have hc3_ : w'.cell? ⟨gb119, 3, none⟩ = some (.int .u32 a0_3) := (blk_cell BK119.out 3).trans rfl
          refine value_ (w1 := w') (v := .int .u32 a0_2) (by rfl) rfl ?_ ?_
          · go_simp
            (skip)
          refine hK.out _ _ ⟨v121, v124, v127, v130, v133, v136, v139, v142, m19_, (by rw [ha.out]; exact putSel_upk 7 hb_ rfl rfl rfl), Q_BK119, Q_HB, Q_HO122, Q_HO125, Q_HO128, Q_HO131, fun h0_ => absurd ((hoff 15 (by kernel_rfl)).symm.trans h0_) (by decide), fun h0_ _ => absurd ((hoff 16 (by kernel_rfl)).symm.trans h0_) (by decide), fun h0_ => absurd ((hoff 17 (by kernel_rfl)).symm.trans h0_) (by decide), fun h0_ => absurd ((hoff 18 (by kernel_rfl)).symm.trans h0_) (by decide), fun h0_ => absurd ((hoff 19 (by kernel_rfl)).symm.trans h0_) (by decide)⟩
        refine steps_cons ?_ ?_
        · rintro b a w' ⟨v121, v124, v127, v130, v133, v136, v139, v142, m19_, ha, Q_BK119, Q_HB, Q_HO122, Q_HO125, Q_HO128, Q_HO131, Q_HO134, Q_HO137, Q_HO140, Q_HO143, Q_X19_⟩ hb_ hon hoff
          refine ⟨_, rfl, fun K hK => ?_⟩
          have e25 : a.tmps[25]? = some (.pointer (some ⟨gb119, 3, none⟩)) := by rw [ha]; exact (putSel_off rfl).trans rfl
          replace ha := Aside0.mk ha
          have BK119 := Aside0.mk Q_BK119
          have HB := Aside0.mk Q_HB
          have hc0_ : w'.cell? ⟨gb119, 0, none⟩ = some (.bool a0_0) := (blk_cell BK119.out 0).trans rfl
          have hc1_ : w'.cell? ⟨gb119, 1, none⟩ = some (.bool a0_1) := (blk_cell BK119.out 1).trans rfl
          have hc2_ : w'.cell? ⟨gb119, 2, none⟩ = some (.int .u32 a0_2) := (blk_cell BK119.out 2).trans rfl
          have hc3_ : w'.cell? ⟨gb119, 3, none⟩ = some (.int .u32 a0_3) := (blk_cell BK119.out 3).trans rfl
          refine value_ (w1 := w') (v := .int .u32 a0_3) (by rfl) rfl ?_ ?_
          · go_simp
            (skip)
          refine hK.out _ _ ⟨v121, v124, v127, v130, v133, v136, v139, v142, m19_, (by rw [ha.out]; exact putSel_upk 8 hb_ rfl rfl rfl), Q_BK119, Q_HB, Q_HO122, Q_HO125, Q_HO128, Q_HO131, fun h0_ => absurd ((hoff 15 (by kernel_rfl)).symm.trans h0_) (by decide), fun h0_ _ => absurd ((hoff 16 (by kernel_rfl)).symm.trans h0_) (by decide), fun h0_ => absurd ((hoff 17 (by kernel_rfl)).symm.trans h0_) (by decide), fun h0_ => absurd ((hoff 18 (by kernel_rfl)).symm.trans h0_) (by decide), fun h0_ => absurd ((hoff 19 (by kernel_rfl)).symm.trans h0_) (by decide)⟩
        refine steps_cons ?_ ?_
        · rintro b a w' ⟨v121, v124, v127, v130, v133, v136, v139, v142, m19_, ha, Q_BK119, Q_HB, Q_HO122, Q_HO125, Q_HO128, Q_HO131, Q_HO134, Q_HO137, Q_HO140, Q_HO143, Q_X19_⟩ hb_ hon hoff
          refine ⟨_, rfl, fun K hK => ?_⟩
          have e24 : a.tmps[24]? = some (.int .u32 a0_2) := by rw [ha]; exact putSel_on (e := (12, 24, .int .u32 a0_2)) 7 rfl rfl (hon 12 (by kernel_rfl)) rfl
          have e26 : a.tmps[26]? = some (.int .u32 a0_3) := by rw [ha]; exact putSel_on (e := (14, 26, .int .u32 a0_3)) 8 rfl rfl (hon 14 (by kernel_rfl)) rfl
          replace ha := Aside0.mk ha
          have BK119 := Aside0.mk Q_BK119
          have HB := Aside0.mk Q_HB
          refine Kd.R_lit_step (Kd.int .u32) _ 22 ?hg (N := 27) ?hd (xs := ([0, 0, a0_2, a0_3] : List Int)) (inner := [.int .u32 0, .int .u32 0, .int .u32 a0_2, .int .u32 a0_3]) (ok := fun _ => True) (okp := fun _ => True) ?hr ?hp (fun _ hk => hk) trivial (Below.refl _ _) (Nat.le_refl _) (by simp) ?_; (case hd => rfl); (case hg => rfl); (case hr => (go_simp; done)); (case hp => exact (Reps.one (show Kd.M (Kd.int .u32) _ _ _ 0 [.int .u32 0] from rfl) (Reps.one (show Kd.M (Kd.int .u32) _ _ _ 0 [.int .u32 0] from rfl) (Reps.one (show Kd.M (Kd.int .u32) _ _ _ a0_2 [.int .u32 a0_2] from rfl) (Reps.one (show Kd.M (Kd.int .u32) _ _ _ a0_3 [.int .u32 a0_3] from rfl) (Reps.none _ _))))))
          intro v133 w12 ho13 hb hg_ hnew_
          clear hg_ hnew_
          (rw [← Ny132.out] at ho13)
          have n0_ := Aside0.mk (Kd.R_lower ho13 (below_size (by exact HB.out)))
          have n1_ := Aside0.mk (blk_below (g := gb119) (o := .cells #[.bool a0_0, .bool a0_1, .int .u32 a0_2, .int .u32 a0_3] 24 (0, 0)) (by exact BK119.out) hb)
          have n2_ := Aside0.mk (below_step (by exact HB.out) hb)
          have z_HO122 := fun (h0_ : b 3 = true) => (show Kd.R (Kd.int .u32) 22 w12 w.heap.size (fun _ => True) v121 y120 from by (exact Kd.R_mono (Kd.R_elder' (by exact (Q_HO122 h0_)) (by (exact Kd.R_base ho13)) hb) (fun _ h_ => by (trivial))))
          have z_HO125 := fun (h0_ : b 4 = true) (h1_ : b 17 = false) => (show Kd.R (Kd.int .u8) 5 w12 w.heap.size (fun _ => True) v124 t123 from by (exact (Kd.R_below (by exact (Q_HO125 h0_ h1_)) hb)))
          have z_HO128 := fun (h0_ : b 7 = true) => (show Kd.R (Kd.int .u32) 22 w12 w.heap.size (fun _ => True) v127 y126 from by (exact Kd.R_mono (Kd.R_elder' (by exact (Q_HO128 h0_)) (by (exact Kd.R_base ho13)) hb) (fun _ h_ => by (trivial))))
          have z_HO131 := fun (h0_ : b 8 = true) (h1_ : b 17 = false) => (show Kd.R (Kd.int .u8) 5 w12 w.heap.size (fun _ => True) v130 t129 from by (exact (Kd.R_below (by exact (Q_HO131 h0_ h1_)) hb)))
          clear BK119
          clear HB
          have HO134 := n0_
          have BK119 := n1_
          have HB := n2_
          clear n0_ n1_ n2_
          clear hb ho13
          refine hK.out _ _ ⟨v121, v124, v127, v130, v133, v136, v139, v142, m19_, (by rw [ha.out]; exact putSel_upk 9 hb_ rfl rfl rfl), (by exact BK119.out), (by exact HB.out), z_HO122, z_HO125, z_HO128, z_HO131, fun _ => (by (exact HO134.out)), fun h0_ _ => absurd ((hoff 16 (by kernel_rfl)).symm.trans h0_) (by decide), fun h0_ => absurd ((hoff 17 (by kernel_rfl)).symm.trans h0_) (by decide), fun h0_ => absurd ((hoff 18 (by kernel_rfl)).symm.trans h0_) (by decide), fun h0_ => absurd ((hoff 19 (by kernel_rfl)).symm.trans h0_) (by decide)⟩
        refine steps_cons ?_ ?_
        · rintro b a w' ⟨v121, v124, v127, v130, v133, v136, v139, v142, m19_, ha, Q_BK119, Q_HB, Q_HO122, Q_HO125, Q_HO128, Q_HO131, Q_HO134, Q_HO137, Q_HO140, Q_HO143, Q_X19_⟩ hb_ hon hoff
          refine ⟨_, rfl, fun K hK => ?_⟩
          have e22 : a.tmps[22]? = some (.bool a0_0) := by rw [ha]; exact putSel_on (e := (10, 22, .bool a0_0)) 6 rfl rfl (hon 10 (by kernel_rfl)) rfl
          have e27 : a.tmps[27]? = some (v133) := by rw [ha]; exact putSel_on (e := (15, 27, v133)) 9 rfl rfl (hon 15 (by kernel_rfl)) rfl
          replace ha := Aside0.mk ha
          have BK119 := Aside0.mk Q_BK119
          have HB := Aside0.mk Q_HB
          have HO122 := Aside0.mk (Q_HO122 (hon 3 (by kernel_rfl)))
          have HO125 := Aside0.mk (Q_HO125 (hon 4 (by kernel_rfl)) (hoff 17 (by kernel_rfl)))
          have HO128 := Aside0.mk (Q_HO128 (hon 7 (by kernel_rfl)))
          have HO131 := Aside0.mk (Q_HO131 (hon 8 (by kernel_rfl)) (hoff 17 (by kernel_rfl)))
          have HO134 := Aside0.mk (Q_HO134 (hon 15 (by kernel_rfl)))
          obtain ⟨Ao23, co23, eo23⟩ := Kd.R_slice HO134.out
          (subst eo23)
          refine goes_ Try.func45 (by kernel_rfl) rfl #[.bool a0_0, .int .i64 4, .slice Ao23 y132.length co23] (by rfl) rfl rfl (by (simp only [List.map_toArray, List.map_cons, List.map_nil, Act.eval, Array.getD_eq_getD_getElem?, Option.getD_some, e22, e27]; done)) ?_
          with_reducible refine (pcap_laid.calls kj2 a0_0 4 _ _ y132 t135 _ ?side1 ?side2 A9.out).mono ?_
          (case side1 => exact (Kd.R_reads' HO134.out).2.2)
          (case side2 => exact (Kd.R_reads' HO134.out).2.1)
          rintro e w24 ⟨v136, rfl, ho0, hb⟩
          refine ⟨_, rfl, ?_⟩
          have n0_ := Aside0.mk (Kd.R_below (by (exact HO122.out)) hb)
          have n1_ := Aside0.mk (Kd.R_elder' (by (exact HO125.out)) (by (exact Kd.R_base ho0)) hb)
          have n2_ := Aside0.mk (Kd.R_below (by (exact HO128.out)) hb)
          have n3_ := Aside0.mk (Kd.R_elder' (by (exact HO131.out)) (by (exact Kd.R_base ho0)) hb)
          have n4_ := Aside0.mk (Kd.R_below (by (exact HO134.out)) hb)
          have n5_ := Aside0.mk (Kd.R_lower (Kd.R_new' (Kd.R_new' ho0 (Kd.R_lt (by (exact HO125.out)))) (Kd.R_lt (by (exact HO131.out)))) (below_size (by exact HB.out)))
          have n6_ := Aside0.mk (blk_below (g := gb119) (o := .cells #[.bool a0_0, .bool a0_1, .int .u32 a0_2, .int .u32 a0_3] 24 (0, 0)) (by exact BK119.out) hb)
          have n7_ := Aside0.mk (below_step (by exact HB.out) hb)
          clear HO122
          clear HO125
          clear HO128
          clear HO131
          clear HO134
          clear BK119
          clear HB
          have HO122 := n0_
          have HO125 := n1_
          have HO128 := n2_
          have HO131 := n3_
          have HO134 := n4_
          have HO137 := n5_
          have BK119 := n6_
          have HB := n7_
          clear n0_ n1_ n2_ n3_ n4_ n5_ n6_ n7_
          (try clear hb)
          (skip)
          (skip)
          (skip)
          (try clear ho0)
          refine hK.out _ _ ⟨v121, v124, v127, v130, .slice Ao23 y132.length co23, v136, v139, v142, m19_, (by rw [ha.out]; exact putSel_upk 10 hb_ rfl rfl rfl), (by exact BK119.out), (by exact HB.out), fun _ => (by (exact HO122.out)), fun _ _ => (by (exact Kd.R_mono HO125.out (fun _ hk => trivial))), fun _ => (by (exact HO128.out)), fun _ _ => (by (exact Kd.R_mono HO131.out (fun _ hk => trivial))), fun _ => (by (exact HO134.out)), fun _ _ => (by (exact Kd.R_mono HO137.out (fun _ hk => trivial))), fun h0_ => absurd ((hoff 17 (by kernel_rfl)).symm.trans h0_) (by decide), fun h0_ => absurd ((hoff 18 (by kernel_rfl)).symm.trans h0_) (by decide), fun h0_ => absurd ((hoff 19 (by kernel_rfl)).symm.trans h0_) (by decide)⟩
        refine steps_cons ?_ ?_
        · rintro b a w' ⟨v121, v124, v127, v130, v133, v136, v139, v142, m19_, ha, Q_BK119, Q_HB, Q_HO122, Q_HO125, Q_HO128, Q_HO131, Q_HO134, Q_HO137, Q_HO140, Q_HO143, Q_X19_⟩ hb_ hon hoff
          refine ⟨_, rfl, fun K hK => ?_⟩
          have e16 : a.tmps[16]? = some (v124) := by rw [ha]; exact putSel_on (e := (4, 16, v124)) 2 rfl rfl (hon 4 (by kernel_rfl)) rfl
          have e20 : a.tmps[20]? = some (v130) := by rw [ha]; exact putSel_on (e := (8, 20, v130)) 5 rfl rfl (hon 8 (by kernel_rfl)) rfl
          have e28 : a.tmps[28]? = some (v136) := by rw [ha]; exact putSel_on (e := (16, 28, v136)) 10 rfl rfl (hon 16 (by kernel_rfl)) rfl
          replace ha := Aside0.mk ha
          have BK119 := Aside0.mk Q_BK119
          have HB := Aside0.mk Q_HB
          have HO122 := Aside0.mk (Q_HO122 (hon 3 (by kernel_rfl)))
          have HO125 := Aside0.mk (Q_HO125 (hon 4 (by kernel_rfl)) hb_)
          have HO128 := Aside0.mk (Q_HO128 (hon 7 (by kernel_rfl)))
          have HO131 := Aside0.mk (Q_HO131 (hon 8 (by kernel_rfl)) hb_)
          have HO134 := Aside0.mk (Q_HO134 (hon 15 (by kernel_rfl)))
          have HO137 := Aside0.mk (Q_HO137 (hon 16 (by kernel_rfl)) hb_)
          obtain ⟨Ao25, co25, eo25⟩ := Kd.R_slice HO125.out
          (subst eo25)
          obtain ⟨Ao26, co26, eo26⟩ := Kd.R_slice HO131.out
          (subst eo26)
          obtain ⟨Ao27, co27, eo27⟩ := Kd.R_slice HO137.out
          (subst eo27)
          refine Kd.N_lit_step (Kd.slice 5 (Kd.int .u8)) _ 28 ?hg (N' := 29) ?hd (xs := ([t123, t129, t135] : List (List Int))) (inner := [.slice Ao25 t123.length co25, .slice Ao26 t129.length co26, .slice Ao27 t135.length co27]) (ok := (fun k_ => some k_ ≠ (v121 : Value).ownBlock ∧ some k_ ≠ (v127 : Value).ownBlock ∧ some k_ ≠ (v133 : Value).ownBlock ∧ k_ ≠ gb119)) (okp := (fun k_ => some k_ ≠ (v121 : Value).ownBlock ∧ some k_ ≠ (v127 : Value).ownBlock ∧ some k_ ≠ (v133 : Value).ownBlock ∧ k_ ≠ gb119)) ?hr ?hp (fun _ hk => hk) ((show ∀ k_, w'.heap.size ≤ k_ → (fun k_ => some k_ ≠ (v121 : Value).ownBlock ∧ some k_ ≠ (v127 : Value).ownBlock ∧ some k_ ≠ (v133 : Value).ownBlock ∧ k_ ≠ gb119) k_ from fun k_ hk => ⟨Kd.fresh' (Kd.R_lt (by (exact HO122.out))) k_ hk, Kd.fresh' (Kd.R_lt (by (exact HO128.out))) k_ hk, Kd.fresh' (Kd.R_lt (by (exact HO134.out))) k_ hk, Kd.freshB (g := gb119) (o := .cells #[.bool a0_0, .bool a0_1, .int .u32 a0_2, .int .u32 a0_3] 24 (0, 0)) (by exact BK119.out) k_ hk⟩) _ (Nat.le_refl _)) (Below.refl _ _) (Nat.le_refl _) (by simp) ?_; (case hd => rfl); (case hg => rfl); (case hr => (go_simp; done)); (case hp => exact (Reps.one (show Kd.FK (Kd.slice 5 (Kd.int .u8)) _ _ t123 [.slice Ao25 t123.length co25] from (Kd.FK_slice_mk (Kd.R_reads' (Kd.R_mono (ok' := (fun k_ => some k_ ≠ (v121 : Value).ownBlock ∧ some k_ ≠ (v127 : Value).ownBlock ∧ some k_ ≠ (v133 : Value).ownBlock ∧ k_ ≠ gb119)) (Kd.R_types (Kd.R_apart' (Kd.R_apart' (Kd.R_apart' (HO125.out) (Kd.R_typed HO122.out) (by decide)) (Kd.R_typed HO128.out) (by decide)) (Kd.R_typed HO134.out) (by decide)) BK119.out (by decide)) (fun k_ hk => ⟨hk.1.1.1.2, ⟨hk.1.1.2, ⟨hk.1.2, hk.2⟩⟩⟩))).2.1 (Kd.R_F (Kd.R_mono (ok' := (fun k_ => some k_ ≠ (v121 : Value).ownBlock ∧ some k_ ≠ (v127 : Value).ownBlock ∧ some k_ ≠ (v133 : Value).ownBlock ∧ k_ ≠ gb119)) (Kd.R_types (Kd.R_apart' (Kd.R_apart' (Kd.R_apart' (HO125.out) (Kd.R_typed HO122.out) (by decide)) (Kd.R_typed HO128.out) (by decide)) (Kd.R_typed HO134.out) (by decide)) BK119.out (by decide)) (fun k_ hk => ⟨hk.1.1.1.2, ⟨hk.1.1.2, ⟨hk.1.2, hk.2⟩⟩⟩))))) (Reps.one (show Kd.FK (Kd.slice 5 (Kd.int .u8)) _ _ t129 [.slice Ao26 t129.length co26] from (Kd.FK_slice_mk (Kd.R_reads' (Kd.R_mono (ok' := (fun k_ => some k_ ≠ (v121 : Value).ownBlock ∧ some k_ ≠ (v127 : Value).ownBlock ∧ some k_ ≠ (v133 : Value).ownBlock ∧ k_ ≠ gb119)) (Kd.R_types (Kd.R_apart' (Kd.R_apart' (Kd.R_apart' (HO131.out) (Kd.R_typed HO122.out) (by decide)) (Kd.R_typed HO128.out) (by decide)) (Kd.R_typed HO134.out) (by decide)) BK119.out (by decide)) (fun k_ hk => ⟨hk.1.1.1.2, ⟨hk.1.1.2, ⟨hk.1.2, hk.2⟩⟩⟩))).2.1 (Kd.R_F (Kd.R_mono (ok' := (fun k_ => some k_ ≠ (v121 : Value).ownBlock ∧ some k_ ≠ (v127 : Value).ownBlock ∧ some k_ ≠ (v133 : Value).ownBlock ∧ k_ ≠ gb119)) (Kd.R_types (Kd.R_apart' (Kd.R_apart' (Kd.R_apart' (HO131.out) (Kd.R_typed HO122.out) (by decide)) (Kd.R_typed HO128.out) (by decide)) (Kd.R_typed HO134.out) (by decide)) BK119.out (by decide)) (fun k_ hk => ⟨hk.1.1.1.2, ⟨hk.1.1.2, ⟨hk.1.2, hk.2⟩⟩⟩))))) (Reps.one (show Kd.FK (Kd.slice 5 (Kd.int .u8)) _ _ t135 [.slice Ao27 t135.length co27] from (Kd.FK_slice_mk (Kd.R_reads' (Kd.R_mono (ok' := (fun k_ => some k_ ≠ (v121 : Value).ownBlock ∧ some k_ ≠ (v127 : Value).ownBlock ∧ some k_ ≠ (v133 : Value).ownBlock ∧ k_ ≠ gb119)) (Kd.R_types (Kd.R_apart' (Kd.R_apart' (Kd.R_apart' (HO137.out) (Kd.R_typed HO122.out) (by decide)) (Kd.R_typed HO128.out) (by decide)) (Kd.R_typed HO134.out) (by decide)) BK119.out (by decide)) (fun k_ hk => ⟨hk.1.1.1.2, ⟨hk.1.1.2, ⟨hk.1.2, hk.2⟩⟩⟩))).2.1 (Kd.R_F (Kd.R_mono (ok' := (fun k_ => some k_ ≠ (v121 : Value).ownBlock ∧ some k_ ≠ (v127 : Value).ownBlock ∧ some k_ ≠ (v133 : Value).ownBlock ∧ k_ ≠ gb119)) (Kd.R_types (Kd.R_apart' (Kd.R_apart' (Kd.R_apart' (HO137.out) (Kd.R_typed HO122.out) (by decide)) (Kd.R_typed HO128.out) (by decide)) (Kd.R_typed HO134.out) (by decide)) BK119.out (by decide)) (fun k_ hk => ⟨hk.1.1.1.2, ⟨hk.1.1.2, ⟨hk.1.2, hk.2⟩⟩⟩))))) (Reps.none _ _)))))
          intro v139 w28 ho29 hb hg_ hnew_
          clear hg_ hnew_
          (rw [← Ny138.out] at ho29)
          have n0_ := Aside0.mk (Kd.R_below (by (exact HO122.out)) hb)
          have n1_ := Aside0.mk (Kd.R_below (by (exact HO128.out)) hb)
          have n2_ := Aside0.mk (Kd.R_below (by (exact HO134.out)) hb)
          have n3_ := Aside0.mk (Kd.N_lower ho29 (below_size (by exact HB.out)))
          have n4_ := Aside0.mk (blk_below (g := gb119) (o := .cells #[.bool a0_0, .bool a0_1, .int .u32 a0_2, .int .u32 a0_3] 24 (0, 0)) (by exact BK119.out) hb)
          have n5_ := Aside0.mk (below_step (by exact HB.out) hb)
          clear HO122
          clear HO128
          clear HO134
          clear BK119
          clear HB
          clear HO125
          clear HO131
          clear HO137
          have HO122 := n0_
          have HO128 := n1_
          have HO134 := n2_
          have HO140 := n3_
          have BK119 := n4_
          have HB := n5_
          clear n0_ n1_ n2_ n3_ n4_ n5_
          clear hb ho29
          refine hK.out _ _ ⟨v121, .slice Ao25 t123.length co25, v127, .slice Ao26 t129.length co26, v133, .slice Ao27 t135.length co27, v139, v142, m19_, (by rw [ha.out]; exact putSel_upk 11 hb_ rfl rfl rfl), (by exact BK119.out), (by exact HB.out), fun _ => (by (exact HO122.out)), fun _ h1_ => absurd ((up_self b 17).symm.trans h1_) (by decide), fun _ => (by (exact HO128.out)), fun _ h1_ => absurd ((up_self b 17).symm.trans h1_) (by decide), fun _ => (by (exact HO134.out)), fun _ h1_ => absurd ((up_self b 17).symm.trans h1_) (by decide), fun _ => (by (exact Kd.N_mono HO140.out (fun _ hk => hk.2.2.2))), fun h0_ => absurd ((hoff 18 (by kernel_rfl)).symm.trans h0_) (by decide), fun h0_ => absurd ((hoff 19 (by kernel_rfl)).symm.trans h0_) (by decide)⟩
        refine steps_cons ?_ ?_
        · rintro b a w' ⟨v121, v124, v127, v130, v133, v136, v139, v142, m19_, ha, Q_BK119, Q_HB, Q_HO122, Q_HO125, Q_HO128, Q_HO131, Q_HO134, Q_HO137, Q_HO140, Q_HO143, Q_X19_⟩ hb_ hon hoff
          refine ⟨_, rfl, fun K hK => ?_⟩
          have e29 : a.tmps[29]? = some (v139) := by rw [ha]; exact putSel_on (e := (17, 29, v139)) 11 rfl rfl (hon 17 (by kernel_rfl)) rfl
          replace ha := Aside0.mk ha
          have BK119 := Aside0.mk Q_BK119
          have HB := Aside0.mk Q_HB
          have HO122 := Aside0.mk (Q_HO122 (hon 3 (by kernel_rfl)))
          have HO128 := Aside0.mk (Q_HO128 (hon 7 (by kernel_rfl)))
          have HO134 := Aside0.mk (Q_HO134 (hon 15 (by kernel_rfl)))
          have HO140 := Aside0.mk (Q_HO140 (hon 17 (by kernel_rfl)))
          obtain ⟨Ao30, co30, eo30⟩ := Kd.N_slice HO140.out
          (subst eo30)
          refine goes_ Try.func44 (by kernel_rfl) rfl #[.slice Ao30 y138.length co30] (by rfl) rfl rfl (by (simp only [List.map_toArray, List.map_cons, List.map_nil, Act.eval, Array.getD_eq_getD_getElem?, Option.getD_some, e29]; done)) ?_
          with_reducible refine (slices_Concat_byte_byte.calls _ _ y138 t141 _ ?side1 ?side2 A10.out).mono ?_
          (case side1 => exact (Kd.N_reads' HO140.out).2.2)
          (case side2 => exact (Kd.N_reads' HO140.out).2.1)
          rintro e w31 ⟨v142, rfl, ho0, hb⟩
          refine ⟨_, rfl, ?_⟩
          have n0_ := Aside0.mk (Kd.R_below (by (exact HO122.out)) hb)
          have n1_ := Aside0.mk (Kd.R_below (by (exact HO128.out)) hb)
          have n2_ := Aside0.mk (Kd.R_below (by (exact HO134.out)) hb)
          have n3_ := Aside0.mk (Kd.N_elder' (by (exact HO140.out)) (by (exact Kd.R_base ho0)) hb)
          have n4_ := Aside0.mk (Kd.R_lower ho0 (below_size (by exact HB.out)))
          have n5_ := Aside0.mk (blk_below (g := gb119) (o := .cells #[.bool a0_0, .bool a0_1, .int .u32 a0_2, .int .u32 a0_3] 24 (0, 0)) (by exact BK119.out) hb)
          have n6_ := Aside0.mk (below_step (by exact HB.out) hb)
          clear HO122
          clear HO128
          clear HO134
          clear HO140
          clear BK119
          clear HB
          have HO122 := n0_
          have HO128 := n1_
          have HO134 := n2_
          have HO140 := n3_
          have HO143 := n4_
          have BK119 := n5_
          have HB := n6_
          clear n0_ n1_ n2_ n3_ n4_ n5_ n6_
          (try clear hb)
          (skip)
          (skip)
          (skip)
          (try clear ho0)
          refine hK.out _ _ ⟨v121, v124, v127, v130, v133, v136, .slice Ao30 y138.length co30, v142, m19_, (by rw [ha.out]; exact putSel_upk 12 hb_ rfl rfl rfl), (by exact BK119.out), (by exact HB.out), fun _ => (by (exact HO122.out)), fun _ h1_ => absurd ((hon 17 (by kernel_rfl)).symm.trans h1_) (by decide), fun _ => (by (exact HO128.out)), fun _ h1_ => absurd ((hon 17 (by kernel_rfl)).symm.trans h1_) (by decide), fun _ => (by (exact HO134.out)), fun _ h1_ => absurd ((hon 17 (by kernel_rfl)).symm.trans h1_) (by decide), fun _ => (by (exact Kd.N_mono HO140.out (fun _ hk => hk.1))), fun _ => (by (exact HO143.out)), fun h0_ => absurd ((hoff 19 (by kernel_rfl)).symm.trans h0_) (by decide)⟩
        refine steps_cons ?_ ?_
        · rintro b a w' ⟨v121, v124, v127, v130, v133, v136, v139, v142, m19_, ha, Q_BK119, Q_HB, Q_HO122, Q_HO125, Q_HO128, Q_HO131, Q_HO134, Q_HO137, Q_HO140, Q_HO143, Q_X19_⟩ hb_ hon hoff
          refine ⟨_, rfl, fun K hK => ?_⟩
          have e30 : a.tmps[30]? = some (v142) := by rw [ha]; exact putSel_on (e := (18, 30, v142)) 12 rfl rfl (hon 18 (by kernel_rfl)) rfl
          replace ha := Aside0.mk ha
          have BK119 := Aside0.mk Q_BK119
          have HB := Aside0.mk Q_HB
          have HO122 := Aside0.mk (Q_HO122 (hon 3 (by kernel_rfl)))
          have HO128 := Aside0.mk (Q_HO128 (hon 7 (by kernel_rfl)))
          have HO134 := Aside0.mk (Q_HO134 (hon 15 (by kernel_rfl)))
          have HO140 := Aside0.mk (Q_HO140 (hon 17 (by kernel_rfl)))
          have HO143 := Aside0.mk (Q_HO143 (hon 18 (by kernel_rfl)))
          refine value_ (w1 := w') (v := v142) (by rfl) rfl ?_ ?_
          · go_simp
            (skip)
          refine hK.out _ _ ⟨v121, v124, v127, v130, v133, v136, v139, v142, (v142), (by rw [ha.out]; exact putSel_upk 13 hb_ rfl rfl rfl), Q_BK119, Q_HB, Q_HO122, fun _ h1_ => absurd ((hon 17 (by kernel_rfl)).symm.trans h1_) (by decide), Q_HO128, fun _ h1_ => absurd ((hon 17 (by kernel_rfl)).symm.trans h1_) (by decide), Q_HO134, fun _ h1_ => absurd ((hon 17 (by kernel_rfl)).symm.trans h1_) (by decide), Q_HO140, Q_HO143, fun _ => rfl⟩
        exact steps_nil
      rintro b a w31 hall ⟨v121, v124, v127, v130, v133, v136, v139, v142, m19_, ha, Q_BK119, Q_HB, Q_HO122, Q_HO125, Q_HO128, Q_HO131, Q_HO134, Q_HO137, Q_HO140, Q_HO143, Q_X19_⟩
      clear BK119 HB
      have hb1_ := hall 1 (by kernel_rfl)
      have hb3_ := hall 3 (by kernel_rfl)
      have hb4_ := hall 4 (by kernel_rfl)
      have hb6_ := hall 6 (by kernel_rfl)
      have hb7_ := hall 7 (by kernel_rfl)
      have hb8_ := hall 8 (by kernel_rfl)
      have hb10_ := hall 10 (by kernel_rfl)
      have hb12_ := hall 12 (by kernel_rfl)
      have hb14_ := hall 14 (by kernel_rfl)
      have hb15_ := hall 15 (by kernel_rfl)
      have hb16_ := hall 16 (by kernel_rfl)
      have hb17_ := hall 17 (by kernel_rfl)
      have hb18_ := hall 18 (by kernel_rfl)
      have hb19_ := hall 19 (by kernel_rfl)
      subst ha
      obtain rfl := Q_X19_ hb19_
      simp only [putSel, hb1_, hb3_, hb4_, hb6_, hb7_, hb8_, hb10_, hb12_, hb14_, hb15_, hb16_, hb17_, hb18_, hb19_, if_true, Act.put, List.setIfInBounds_toArray, List.set_cons_zero, List.set_cons_succ]
      have BK119 := Aside0.mk Q_BK119
      clear Q_BK119
      have HB := Aside0.mk Q_HB
      clear Q_HB
      have HO122 := Aside0.mk (Q_HO122 hb3_)
      clear Q_HO122
      clear Q_HO125
      have HO128 := Aside0.mk (Q_HO128 hb7_)
      clear Q_HO128
      clear Q_HO131
      have HO134 := Aside0.mk (Q_HO134 hb15_)
      clear Q_HO134
      clear Q_HO137
      have HO140 := Aside0.mk (Q_HO140 hb17_)
      clear Q_HO140
      have HO143 := Aside0.mk (Q_HO143 hb18_)
      clear Q_HO143
      clear hall hb1_ hb3_ hb4_ hb6_ hb7_ hb8_ hb10_ hb12_ hb14_ hb15_ hb16_ hb17_ hb18_ hb19_
      try go_wp2
      go_loopg [7, 33] kj2 (fun kq v7 v33 w' => ∃ (x7_2 : List Int) (x33_2 : Int), v33 = .int .i64 x33_2 ∧ Aside0 (pcap_Put.l0 kq x7_2 l1 (l1.length : Int) x33_2 a0_0 a0_1 a0_2 a0_3 = some (r1, r2)) ∧ Aside0 (kq ≤ kj2) ∧ Aside0 (Kd.R (Kd.int .u8) 5 w' w.heap.size (fun _ => True) v7 x7_2) ∧ Aside0 (w'.heap[gb119]? = some (.cells #[.bool a0_0, .bool a0_1, .int .u32 a0_2, .int .u32 a0_3] 24 (0, 0))) ∧ Aside0 (Below w.heap.size w w'))
      case atStart => exact ⟨(t141), (0), (by (rfl)), H', ⟨Nat.le_refl _⟩, ⟨by exact HO143.out⟩, ⟨by exact BK119.out⟩, ⟨by exact HB.out⟩⟩
      case round =>
        clear H'
        obtain ⟨x7_2, x33_2, rfl, HA, HK2, HO_7, BK119, HB⟩ := hrel
        cases gk with
        | zero => exact absurd HA.out (by simp [pcap_Put.l0])
        | succ k2 =>
          have H := HA.out
          clear HA
          simp only [pcap_Put.l0] at H
          by_cases c32 : x33_2 < (l1.length : Int)
          · rw [if_pos c32] at H
            have c32b0 : decide (x33_2 < (l1.length : Int)) = true := decide_eq_true c32
            clear c32
            by_cases c33 : 0 ≤ x33_2
            · rw [if_pos c33] at H
              have c33b0 : decide (0 ≤ x33_2) = true := decide_eq_true c33
              clear c33
              by_cases c34 : x33_2 < (l1.length : Int)
              · rw [if_pos c34] at H
                have c34b0 : decide (x33_2 < (l1.length : Int)) = true := decide_eq_true c34
                clear c34
                by_cases c35 : (((rd_T46 l1 x33_2).f3).length : Int) > 131072
                · rw [if_pos c35] at H
                  have c35b0 : decide (131072 < (((rd_T46 l1 x33_2).f3).length : Int)) = true := decide_eq_true c35
                  have c35b1 : decide (131072 < ((rd_T46 l1 x33_2).f3).length) = true := decide_eq_true (by omega)
                  clear c35
                  simp only [Option.some.injEq, Prod.mk.injEq] at H
                  obtain ⟨rfl, rfl⟩ := H
                  have p144 : 0 ≤ (x33_2 : Int) := of_decide_eq_true (by (with_reducible assumption))
                  have q144 : x33_2 < (l1.length : Int) := of_decide_eq_true (by (with_reducible assumption))
                  obtain ⟨ad144, A144_3, c144_3, e144, hx144_0, hx144_1, hx144_2, hx144_3, hl144_3, hi144_3⟩ := at_T46 HR1.out x33_2 p144 q144
                  cases e144
                  replace hx144_0 := (HB.out.cell (World.block_lt_of_cell? w _ hx144_0)).trans hx144_0
                  replace hx144_1 := (HB.out.cell (World.block_lt_of_cell? w _ hx144_1)).trans hx144_1
                  replace hx144_2 := (HB.out.cell (World.block_lt_of_cell? w _ hx144_2)).trans hx144_2
                  replace hx144_3 := (HB.out.cell (World.block_lt_of_cell? w _ hx144_3)).trans hx144_3
                  have HR144_3 := Aside0.mk hi144_3
                  have HC144_3 := Aside0.mk hl144_3
                  clear hi144_3 hl144_3
                  replace p144 := eq_true p144
                  replace q144 := eq_true q144
                  go_wp2_with (first | ((with_reducible refine gate_dst (N := 9) rfl ?_); refine box_event ?hg (N := 9) ?hd (cs := #[.int .u32 0, .int .u32 0, .int .u32 0, .slice none 0 0]) (t := 46) ?hr ?_; (case hd => rfl); (case hg => rfl); (case hr => (go_simp; done)); intro gb145 hg w36 hbox hb; have n0_ := Aside0.mk (Kd.R_below (by exact HO_7.out) hb); have n1_ := Aside0.mk (blk_below (g := gb119) (o := .cells #[.bool a0_0, .bool a0_1, .int .u32 a0_2, .int .u32 a0_3] 24 (0, 0)) (by exact BK119.out) hb); have n2_ := Aside0.mk (below_step (by exact HB.out) hb); have n3_ := Aside0.mk (hbox); have n4_ := Aside0.mk ((by rw [hg]; exact (below_size (by exact HB.out)) : w.heap.size ≤ gb145)); have n5_ := Aside0.mk ((by rw [hg]; exact (below_size (by exact HB.out)) : w.heap.size ≤ gb145)); have n6_ := Aside0.mk ((by rw [hg]; exact Nat.ne_of_lt (blk_lt (g := gb119) (o := .cells #[.bool a0_0, .bool a0_1, .int .u32 a0_2, .int .u32 a0_3] 24 (0, 0)) (by exact BK119.out)) : gb119 ≠ gb145)); have n7_ := Aside0.mk ((by rw [hg]; exact Nat.ne_of_gt (blk_lt (g := gb119) (o := .cells #[.bool a0_0, .bool a0_1, .int .u32 a0_2, .int .u32 a0_3] 24 (0, 0)) (by exact BK119.out)) : gb145 ≠ gb119)); clear HO_7; clear BK119; clear HB; have HO_7 := n0_; have BK119 := n1_; have HB := n2_; have BK145 := n3_; have GW145 := n4_; have GE145 := n5_; have NB119_145 := n6_; have NB145_119 := n7_; clear n0_ n1_ n2_ n3_ n4_ n5_ n6_ n7_; clear hb hbox hg; have hnb37 := NB145_119.out; have hnc37 := NB119_145.out; have hcz38_0 : w36.cell? ⟨gb145, 0, none⟩ = some (.int .u32 0) := (blk_cell BK145.out 0).trans rfl; have hcz38_1 : w36.cell? ⟨gb145, 1, none⟩ = some (.int .u32 0) := (blk_cell BK145.out 1).trans rfl; have hcz38_2 : w36.cell? ⟨gb145, 2, none⟩ = some (.int .u32 0) := (blk_cell BK145.out 2).trans rfl; have hcz38_3 : w36.cell? ⟨gb145, 3, none⟩ = some (.slice none 0 0) := (blk_cell BK145.out 3).trans rfl; have hfz38_0 := blk_frozen BK145.out 0; have hfz38_1 := blk_frozen BK145.out 1; have hfz38_2 := blk_frozen BK145.out 2; have hfz38_3 := blk_frozen BK145.out 3))
                  go_ret2
                  exact ⟨_, by (rfl), by (exact Kd.R_nil _ _ _ _ _), by repeat (with_reducible first | exact HB.out | refine below_set ?_ GE145.out)⟩
                · rw [if_neg c35] at H
                  have c35b0 : decide (131072 < (((rd_T46 l1 x33_2).f3).length : Int)) = false := decide_eq_false c35
                  have c35b1 : decide (131072 < ((rd_T46 l1 x33_2).f3).length) = false := decide_eq_false (by omega)
                  clear c35
                  obtain ⟨y146, hy146⟩ : ∃ y_ : List Int, y_ = (([(rd_T46 l1 x33_2).f0, (rd_T46 l1 x33_2).f1, ((((rd_T46 l1 x33_2).f3).length : Int)) % 4294967296, (rd_T46 l1 x33_2).f2] : List Int)) := ⟨_, rfl⟩
                  replace H : ((pcap_laid.f k2 a0_0 4 y146).bind fun t149 => (if x7_2.length + t149.length < 140737488355328 then ((some (x7_2 ++ t149 : List Int)).bind fun y152 => (if y152.length + ((rd_T46 l1 x33_2).f3).length < 140737488355328 then (pcap_Put.l0 k2 (y152 ++ ((rd_T46 l1 x33_2).f3)) l1 (l1.length : Int) (wrap64 (x33_2 + 1)) a0_0 a0_1 a0_2 a0_3) else (none))) else (none))) = some (r1, r2) := by (rw [hy146]; with_reducible exact H)
                  have Ny146 := Aside0.mk hy146
                  clear hy146
                  replace H := Option.bind_eq_some_iff.mp H
                  obtain ⟨t149, A390, H⟩ := H
                  replace H : (if x7_2.length + t149.length < 140737488355328 then ((some (x7_2 ++ t149 : List Int)).bind fun y152 => (if y152.length + ((rd_T46 l1 x33_2).f3).length < 140737488355328 then (pcap_Put.l0 k2 (y152 ++ ((rd_T46 l1 x33_2).f3)) l1 (l1.length : Int) (wrap64 (x33_2 + 1)) a0_0 a0_1 a0_2 a0_3) else (none))) else (none)) = some (r1, r2) := H
                  have A39 := Aside0.mk A390
                  clear A390
                  by_cases c40 : x7_2.length + t149.length < 140737488355328
                  · rw [if_pos c40] at H
                    have LMc40 := Aside0.mk c40
                    clear c40
                    obtain ⟨y152, hy152⟩ : ∃ y_ : List Int, y_ = (x7_2 ++ t149) := ⟨_, rfl⟩
                    replace H : (if y152.length + ((rd_T46 l1 x33_2).f3).length < 140737488355328 then (pcap_Put.l0 k2 (y152 ++ ((rd_T46 l1 x33_2).f3)) l1 (l1.length : Int) (wrap64 (x33_2 + 1)) a0_0 a0_1 a0_2 a0_3) else (none)) = some (r1, r2) := by (have H2_ := (Option.bind_some _ _).symm.trans H; rw [hy152]; with_reducible exact H2_)
                    have Ny152 := Aside0.mk hy152
                    clear hy152
                    by_cases c41 : y152.length + ((rd_T46 l1 x33_2).f3).length < 140737488355328
                    · rw [if_pos c41] at H
                      have LMc41 := Aside0.mk c41
                      clear c41
                      obtain ⟨y155, hy155⟩ : ∃ y_ : List Int, y_ = (y152 ++ ((rd_T46 l1 x33_2).f3)) := ⟨_, rfl⟩
                      replace H : (pcap_Put.l0 k2 y155 l1 (l1.length : Int) (wrap64 (x33_2 + 1)) a0_0 a0_1 a0_2 a0_3) = some (r1, r2) := by (rw [hy155]; with_reducible exact H)
                      have Ny155 := Aside0.mk hy155
                      clear hy155
                      have H' := Aside0.mk H
                      clear H
                      have p144 : 0 ≤ (x33_2 : Int) := of_decide_eq_true (by (with_reducible assumption))
                      have q144 : x33_2 < (l1.length : Int) := of_decide_eq_true (by (with_reducible assumption))
                      obtain ⟨ad144, A144_3, c144_3, e144, hx144_0, hx144_1, hx144_2, hx144_3, hl144_3, hi144_3⟩ := at_T46 HR1.out x33_2 p144 q144
                      cases e144
                      replace hx144_0 := (HB.out.cell (World.block_lt_of_cell? w _ hx144_0)).trans hx144_0
                      replace hx144_1 := (HB.out.cell (World.block_lt_of_cell? w _ hx144_1)).trans hx144_1
                      replace hx144_2 := (HB.out.cell (World.block_lt_of_cell? w _ hx144_2)).trans hx144_2
                      replace hx144_3 := (HB.out.cell (World.block_lt_of_cell? w _ hx144_3)).trans hx144_3
                      have HR144_3 := Aside0.mk hi144_3
                      have HC144_3 := Aside0.mk hl144_3
                      clear hi144_3 hl144_3
                      replace p144 := eq_true p144
                      replace q144 := eq_true q144
                      go_wp2_with (first | ((with_reducible refine gate_dst (N := 9) rfl ?_); refine box_event ?hg (N := 9) ?hd (cs := #[.int .u32 0, .int .u32 0, .int .u32 0, .slice none 0 0]) (t := 46) ?hr ?_; (case hd => rfl); (case hg => rfl); (case hr => (go_simp; done)); intro gb145 hg w42 hbox hb; have n0_ := Aside0.mk (Kd.R_below (by exact HO_7.out) hb); have n1_ := Aside0.mk (blk_below (g := gb119) (o := .cells #[.bool a0_0, .bool a0_1, .int .u32 a0_2, .int .u32 a0_3] 24 (0, 0)) (by exact BK119.out) hb); have n2_ := Aside0.mk (below_step (by exact HB.out) hb); have n3_ := Aside0.mk (hbox); have n4_ := Aside0.mk ((by rw [hg]; exact (below_size (by exact HB.out)) : w.heap.size ≤ gb145)); have n5_ := Aside0.mk ((by rw [hg]; exact (below_size (by exact HB.out)) : w.heap.size ≤ gb145)); have n6_ := Aside0.mk ((by rw [hg]; exact Nat.ne_of_lt (blk_lt (g := gb119) (o := .cells #[.bool a0_0, .bool a0_1, .int .u32 a0_2, .int .u32 a0_3] 24 (0, 0)) (by exact BK119.out)) : gb119 ≠ gb145)); have n7_ := Aside0.mk ((by rw [hg]; exact Nat.ne_of_gt (blk_lt (g := gb119) (o := .cells #[.bool a0_0, .bool a0_1, .int .u32 a0_2, .int .u32 a0_3] 24 (0, 0)) (by exact BK119.out)) : gb145 ≠ gb119)); clear HO_7; clear BK119; clear HB; have HO_7 := n0_; have BK119 := n1_; have HB := n2_; have BK145 := n3_; have GW145 := n4_; have GE145 := n5_; have NB119_145 := n6_; have NB145_119 := n7_; clear n0_ n1_ n2_ n3_ n4_ n5_ n6_ n7_; clear hb hbox hg; have hnb43 := NB145_119.out; have hnc43 := NB119_145.out; have hcz44_0 : w42.cell? ⟨gb145, 0, none⟩ = some (.int .u32 0) := (blk_cell BK145.out 0).trans rfl; have hcz44_1 : w42.cell? ⟨gb145, 1, none⟩ = some (.int .u32 0) := (blk_cell BK145.out 1).trans rfl; have hcz44_2 : w42.cell? ⟨gb145, 2, none⟩ = some (.int .u32 0) := (blk_cell BK145.out 2).trans rfl; have hcz44_3 : w42.cell? ⟨gb145, 3, none⟩ = some (.slice none 0 0) := (blk_cell BK145.out 3).trans rfl; have hfz44_0 := blk_frozen BK145.out 0; have hfz44_1 := blk_frozen BK145.out 1; have hfz44_2 := blk_frozen BK145.out 2; have hfz44_3 := blk_frozen BK145.out 3; have hcz45_0 : w42.cell? ⟨gb119, 0, none⟩ = some (.bool a0_0) := (blk_cell BK119.out 0).trans rfl; have hcz45_1 : w42.cell? ⟨gb119, 1, none⟩ = some (.bool a0_1) := (blk_cell BK119.out 1).trans rfl; have hcz45_2 : w42.cell? ⟨gb119, 2, none⟩ = some (.int .u32 a0_2) := (blk_cell BK119.out 2).trans rfl; have hcz45_3 : w42.cell? ⟨gb119, 3, none⟩ = some (.int .u32 a0_3) := (blk_cell BK119.out 3).trans rfl; have hfz45_0 := blk_frozen BK119.out 0; have hfz45_1 := blk_frozen BK119.out 1; have hfz45_2 := blk_frozen BK119.out 2; have hfz45_3 := blk_frozen BK119.out 3) | ((with_reducible refine gate_dst (N := 54) rfl ?_); refine Kd.R_lit (Kd.int .u32) _ 22 ?hg (N := 54) ?hd (xs := ([(rd_T46 l1 x33_2).f0, (rd_T46 l1 x33_2).f1, ((((rd_T46 l1 x33_2).f3).length : Int)) % 4294967296, (rd_T46 l1 x33_2).f2] : List Int)) (inner := [.int .u32 ((rd_T46 l1 x33_2).f0), .int .u32 ((rd_T46 l1 x33_2).f1), .int .u32 (((((rd_T46 l1 x33_2).f3).length : Int)) % 4294967296), .int .u32 ((rd_T46 l1 x33_2).f2)]) (ok := fun _ => True) (okp := fun _ => True) ?hr ?hp (fun _ hk => hk) trivial (Below.refl _ _) (Nat.le_refl _) (by simp) ?_; (case hd => rfl); (case hg => rfl); (case hr => (go_simp; done)); (case hp => exact (Reps.one (show Kd.M (Kd.int .u32) _ _ _ ((rd_T46 l1 x33_2).f0) [.int .u32 ((rd_T46 l1 x33_2).f0)] from rfl) (Reps.one (show Kd.M (Kd.int .u32) _ _ _ ((rd_T46 l1 x33_2).f1) [.int .u32 ((rd_T46 l1 x33_2).f1)] from rfl) (Reps.one (show Kd.M (Kd.int .u32) _ _ _ (((((rd_T46 l1 x33_2).f3).length : Int)) % 4294967296) [.int .u32 (((((rd_T46 l1 x33_2).f3).length : Int)) % 4294967296)] from rfl) (Reps.one (show Kd.M (Kd.int .u32) _ _ _ ((rd_T46 l1 x33_2).f2) [.int .u32 ((rd_T46 l1 x33_2).f2)] from rfl) (Reps.none _ _)))))); intro v147 w46 ho47 hb hg_ hnew_; clear hg_ hnew_; (rw [← Ny146.out] at ho47); have n0_ := Aside0.mk (Kd.R_below (by exact (Kd.R_mono (Kd.R_far (p := ⟨gb145, 3, none⟩) (Kd.R_far (p := ⟨gb145, 2, none⟩) (Kd.R_far (p := ⟨gb145, 1, none⟩) (Kd.R_far (p := ⟨gb145, 0, none⟩) (Kd.R_types HO_7.out BK145.out (by decide)) (fun _ hk => hk.2) (.int .u32 ((rd_T46 l1 x33_2).f0))) (fun _ hk => hk.2) (.int .u32 ((rd_T46 l1 x33_2).f1))) (fun _ hk => hk.2) (.int .u32 ((rd_T46 l1 x33_2).f2))) (fun _ hk => hk.2) (.slice A144_3 ((rd_T46 l1 x33_2).f3).length c144_3)) (fun _ h_ => h_.1))) hb); have n1_ := Aside0.mk (Kd.R_lower ho47 (below_size (by repeat (with_reducible first | exact HB.out | refine below_set ?_ GE145.out)))); have n2_ := Aside0.mk (blk_below (g := gb119) (o := .cells #[.bool a0_0, .bool a0_1, .int .u32 a0_2, .int .u32 a0_3] 24 (0, 0)) (by refine blk_far ?_ NB119_145.out _; refine blk_far ?_ NB119_145.out _; refine blk_far ?_ NB119_145.out _; refine blk_far ?_ NB119_145.out _; exact BK119.out) hb); have n3_ := Aside0.mk (blk_below (g := gb145) (o := .cells #[.int .u32 ((rd_T46 l1 x33_2).f0), .int .u32 ((rd_T46 l1 x33_2).f1), .int .u32 ((rd_T46 l1 x33_2).f2), .slice A144_3 ((rd_T46 l1 x33_2).f3).length c144_3] 46 (0, 0)) (by refine blk_put (cs := #[.int .u32 ((rd_T46 l1 x33_2).f0), .int .u32 ((rd_T46 l1 x33_2).f1), .int .u32 ((rd_T46 l1 x33_2).f2), .slice none 0 0]) ?_ 3 _ rfl; refine blk_put (cs := #[.int .u32 ((rd_T46 l1 x33_2).f0), .int .u32 ((rd_T46 l1 x33_2).f1), .int .u32 0, .slice none 0 0]) ?_ 2 _ rfl; refine blk_put (cs := #[.int .u32 ((rd_T46 l1 x33_2).f0), .int .u32 0, .int .u32 0, .slice none 0 0]) ?_ 1 _ rfl; refine blk_put (cs := #[.int .u32 0, .int .u32 0, .int .u32 0, .slice none 0 0]) ?_ 0 _ rfl; exact BK145.out) hb); have n4_ := Aside0.mk (below_step (by repeat (with_reducible first | exact HB.out | refine below_set ?_ GE145.out)) hb); clear HO_7; clear BK119; clear BK145; clear HB; have HO_7 := n0_; have HO148 := n1_; have BK119 := n2_; have BK145 := n3_; have HB := n4_; clear n0_ n1_ n2_ n3_ n4_; clear hb ho47; obtain ⟨Ao48, co48, eo48⟩ := Kd.R_slice HO148.out; subst eo48) | ((with_reducible refine gate_callee (f := 45) rfl ?_); refine goesL_ (some 55) rfl rfl Try.func45 (by kernel_rfl) rfl #[.bool a0_0, .int .i64 4, .slice Ao48 y146.length co48] rfl (by (try simp only [List.map_toArray, List.map_cons, List.map_nil]); (rfl)) ?_; (with_reducible refine (pcap_laid.calls k2 a0_0 4 _ _ y146 t149 _ ?side1 ?side2 A39.out).mono ?_); (case side1 => exact (Kd.R_reads' HO148.out).2.2); (case side2 => exact (Kd.R_reads' HO148.out).2.1); rintro e w49 ⟨v150, rfl, ho0, hb⟩; refine ⟨_, rfl, ?_⟩; have n0_ := Aside0.mk (Kd.R_elder' (by exact HO_7.out) (by (exact Kd.R_base ho0)) hb); have n1_ := Aside0.mk (Kd.R_below (by (exact HO148.out)) hb); have n2_ := Aside0.mk (Kd.R_lower (Kd.R_new' ho0 (Kd.R_lt (by exact HO_7.out))) (below_size (by exact HB.out))); have n3_ := Aside0.mk (blk_below (g := gb119) (o := .cells #[.bool a0_0, .bool a0_1, .int .u32 a0_2, .int .u32 a0_3] 24 (0, 0)) (by exact BK119.out) hb); have n4_ := Aside0.mk (blk_below (g := gb145) (o := .cells #[.int .u32 ((rd_T46 l1 x33_2).f0), .int .u32 ((rd_T46 l1 x33_2).f1), .int .u32 ((rd_T46 l1 x33_2).f2), .slice A144_3 ((rd_T46 l1 x33_2).f3).length c144_3] 46 (0, 0)) (by exact BK145.out) hb); have n5_ := Aside0.mk (below_step (by exact HB.out) hb); clear HO_7; clear HO148; clear BK119; clear BK145; clear HB; have HO_7 := n0_; have HO148 := n1_; have HO151 := n2_; have BK119 := n3_; have BK145 := n4_; have HB := n5_; clear n0_ n1_ n2_ n3_ n4_ n5_; (try clear hb); (try clear ho0); obtain ⟨Ao51, co51, eo51⟩ := Kd.R_slice HO151.out; subst eo51) | ((with_reducible refine gate_builtin (b := .append) (xs := #[.tmp 41, .tmp 55]) rfl ?_); at_builtin; refine Kd.R_append_rows (Kd.int .u8) (w0 := w) w.heap.size rfl (.tmp 41) (.tmp 55) 28 5 (.int .u8 0) 1 rfl Try.underlying28 info5 rfl (by decide) (by omega) u7 x7_2 t149 _ _ _ (fun k_ => some k_ ≠ (.slice Ao51 t149.length co51 : Value).ownBlock) (fun _ => False) rfl rfl ?aO ?aR (fun _ _ h => h) (fun _ h => h.elim) ?aF ?aB ?aS ?aL ?_; (case aR => exact (Kd.R_reads' HO151.out).2.2); (case aB => exact (by exact HB.out)); (case aF => exact (fun k_ hk => Kd.fresh' (Kd.R_lt (by (exact HO151.out))) k_ hk)); (case aO => exact (by exact Kd.R_mono HO_7.out (fun _ hk => hk.2))); (case aS => exact (below_size (by exact HB.out))); (case aL => have := LMc40.out; omega); intro v153 w50 ho hb hg hat; rw [← Ny152.out] at ho; have n0_ := Aside0.mk (blk_grown (g := gb119) (o := .cells #[.bool a0_0, .bool a0_1, .int .u32 a0_2, .int .u32 a0_3] 24 (0, 0)) (by exact BK119.out) hg (Kd.R_ne HO_7.out BK119.out (by decide))); have n1_ := Aside0.mk (blk_grown (g := gb145) (o := .cells #[.int .u32 ((rd_T46 l1 x33_2).f0), .int .u32 ((rd_T46 l1 x33_2).f1), .int .u32 ((rd_T46 l1 x33_2).f2), .slice A144_3 ((rd_T46 l1 x33_2).f3).length c144_3] 46 (0, 0)) (by exact BK145.out) hg (Kd.R_ne HO_7.out BK145.out (by decide))); have n2_ := Aside0.mk (Kd.R_over' (by (exact HO148.out)) (Kd.R_typed (by exact HO_7.out)) (by decide) hg); have n3_ := Aside0.mk (Kd.R_after (ok := (fun _ => True)) (by (exact HO151.out)) hg hat); have n4_ := Aside0.mk (hb); have n5_ := Aside0.mk (ho); clear BK119; clear BK145; clear HO148; clear HO151; clear HB; clear HO_7; have BK119 := n0_; have BK145 := n1_; have HO148 := n2_; have HO151 := n3_; have HB := n4_; have HO154 := n5_; clear n0_ n1_ n2_ n3_ n4_ n5_; clear ho hb hg hat; have hcz52_0 : w50.cell? ⟨gb145, 0, none⟩ = some (.int .u32 ((rd_T46 l1 x33_2).f0)) := (blk_cell BK145.out 0).trans rfl; have hcz52_1 : w50.cell? ⟨gb145, 1, none⟩ = some (.int .u32 ((rd_T46 l1 x33_2).f1)) := (blk_cell BK145.out 1).trans rfl; have hcz52_2 : w50.cell? ⟨gb145, 2, none⟩ = some (.int .u32 ((rd_T46 l1 x33_2).f2)) := (blk_cell BK145.out 2).trans rfl; have hcz52_3 : w50.cell? ⟨gb145, 3, none⟩ = some (.slice A144_3 ((rd_T46 l1 x33_2).f3).length c144_3) := (blk_cell BK145.out 3).trans rfl; have hfz52_0 := blk_frozen BK145.out 0; have hfz52_1 := blk_frozen BK145.out 1; have hfz52_2 := blk_frozen BK145.out 2; have hfz52_3 := blk_frozen BK145.out 3) | ((with_reducible refine gate_builtin (b := .append) (xs := #[.tmp 57, .tmp 59]) rfl ?_); at_builtin; refine Kd.R_append_rows (Kd.int .u8) (w0 := w) w.heap.size rfl (.tmp 57) (.tmp 59) 28 5 (.int .u8 0) 1 rfl Try.underlying28 info5 rfl (by decide) (by omega) v153 y152 ((rd_T46 l1 x33_2).f3) _ _ _ (fun k_ => some k_ ≠ (.slice Ao51 t149.length co51 : Value).ownBlock) (fun _ => False) rfl rfl ?aO ?aR (fun _ _ h => h) (fun _ h => h.elim) ?aF ?aB ?aS ?aL ?_; (case aR => exact (Kd.C_below HR144_3.out HB.out)); (case aB => exact (by exact HB.out)); (case aF => exact (fun k_ hk => Kd.fresh' (Kd.R_lt (by (exact HO151.out))) k_ hk)); (case aO => exact (by (exact HO154.out))); (case aS => exact (below_size (by exact HB.out))); (case aL => have := LMc41.out; omega); intro v156 w53 ho hb hg hat; rw [← Ny155.out] at ho; have n0_ := Aside0.mk (blk_grown (g := gb119) (o := .cells #[.bool a0_0, .bool a0_1, .int .u32 a0_2, .int .u32 a0_3] 24 (0, 0)) (by exact BK119.out) hg (Kd.R_ne HO154.out BK119.out (by decide))); have n1_ := Aside0.mk (blk_grown (g := gb145) (o := .cells #[.int .u32 ((rd_T46 l1 x33_2).f0), .int .u32 ((rd_T46 l1 x33_2).f1), .int .u32 ((rd_T46 l1 x33_2).f2), .slice A144_3 ((rd_T46 l1 x33_2).f3).length c144_3] 46 (0, 0)) (by exact BK145.out) hg (Kd.R_ne HO154.out BK145.out (by decide))); have n2_ := Aside0.mk (Kd.R_over' (by (exact HO148.out)) (Kd.R_typed (by (exact HO154.out))) (by decide) hg); have n3_ := Aside0.mk (Kd.R_after (ok := (fun _ => True)) (by (exact HO151.out)) hg hat); have n4_ := Aside0.mk (hb); have n5_ := Aside0.mk (ho); clear BK119; clear BK145; clear HO148; clear HO151; clear HB; clear HO154; have BK119 := n0_; have BK145 := n1_; have HO148 := n2_; have HO151 := n3_; have HB := n4_; have HO157 := n5_; clear n0_ n1_ n2_ n3_ n4_ n5_; clear ho hb hg hat))
                      go_roundg k2
                      case measure => have := HJ2.out; have := HK2.out; omega
                      case rel => exact ⟨(y155), (wrap64 (x33_2 + 1)), (by (rfl)), H', ⟨by have := HJ2.out; have := HK2.out; omega⟩, ⟨by exact Kd.R_mono HO157.out (fun _ hk => trivial)⟩, ⟨by exact BK119.out⟩, ⟨by exact HB.out⟩⟩
                    · rw [if_neg c41] at H
                      exact absurd H (by simp)
                  · rw [if_neg c40] at H
                    exact absurd H (by simp)
              · rw [if_neg c34] at H
                exact absurd H (by simp)
            · rw [if_neg c33] at H
              exact absurd H (by simp)
          · rw [if_neg c32] at H
            have c32b0 : decide (x33_2 < (l1.length : Int)) = false := decide_eq_false c32
            clear c32
            simp only [Option.some.injEq, Prod.mk.injEq] at H
            obtain ⟨rfl, rfl⟩ := H
            go_wp2
            go_ret2
            exact ⟨_, by (rfl), by exact HO_7.out, by exact HB.out⟩

end Go.Proofs.Ytnjimecjpnjojaa.Print
