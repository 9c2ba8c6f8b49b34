-- laid by this session's own program (wip/mkprint.sh) for this claim
import Derived.Test.YtgnonglkibhnhaaDoor0
import Derived.Test.YtgnonglkibhnhaaDoorM4
import Derived.Test.YtgnonglkibhnhaaDoorM5
namespace Go.Proofs.YtgnonglkibhnhaaDoor.Print
open Go.RowKit Go.Proofs.YtgnonglkibhnhaaDoorW.PrintWords Go.Proofs.YtgnonglkibhnhaaDoorW.PrintLast Go.Proofs.YtgnonglkibhnhaaDoorW.PrintMore
attribute [local go_sem] max2_int min2_int max_two min_two max_three min_three max_four min_four   -- for this text's walks alone
set_option linter.unusedVariables false
set_option linter.unusedSimpArgs false

/-! ### pcap_Put: function 54 -/
mutual
def pcap_Put.j0 : Nat → List (S51) → Int → Bool → Bool → Int → Int → Option (List Int × Int)
 | 0, _, _, _, _, _, _ => none
 | k + 1, x1, x6, x341000, x341001, x341002, x341003 => (pcap_laid.f k x341000 4 ([x6] : List Int)).bind fun t344 => ((pcap_laid.f k x341000 2 ([2, 4] : List Int)).bind fun t350 => ((pcap_laid.f k x341000 4 ([0, 0, x341002, x341003] : List Int)).bind fun t356 => ((slices_Concat_byte_byte.f ([t344, t350, t356] : List (List Int))).bind fun t362 => (pcap_Put.l0 k t362 x1 (x1.length : Int) 0 x341000 x341001 x341002 x341003))))
def pcap_Put.l0 : Nat → List Int → List (S51) → Int → Int → Bool → Bool → Int → Int → Option (List Int × Int)
 | 0, _, _, _, _, _, _, _, _ => none
 | k + 1, x7, x31, x32, x33, x341000, x341001, x341002, x341003 => if x33 < x32 then (if 0 ≤ x33 then (if x33 < (x31.length : Int) then (if (((rd_T51 x31 x33).f3).length : Int) > 131072 then (some (([] : List Int), 4)) else ((pcap_laid.f k x341000 4 (([(rd_T51 x31 x33).f0, (rd_T51 x31 x33).f1, ((((rd_T51 x31 x33).f3).length : Int)) % 4294967296, (rd_T51 x31 x33).f2] : List Int))).bind fun t370 => (if x7.length + t370.length < 140737488355328 then ((some (x7 ++ t370 : List Int)).bind fun y373 => (if y373.length + ((rd_T51 x31 x33).f3).length < 140737488355328 then (pcap_Put.l0 k (y373 ++ ((rd_T51 x31 x33).f3)) x31 x32 (wrap64 (x33 + 1)) x341000 x341001 x341002 x341003) else (none))) else (none)))) else (none)) else (none)) else (some (x7, 0))
end
def pcap_Put.f (k : Nat) (a0_0 : Bool) (a0_1 : Bool) (a0_2 : Int) (a0_3 : Int) (l1 : List (S51)) : Option (List Int × Int) := if a0_1 = true then (pcap_Put.j0 k l1 2712812621 a0_0 a0_1 a0_2 a0_3) else (pcap_Put.j0 k l1 2712847316 a0_0 a0_1 a0_2 a0_3)
def pcap_Put.T4 : Bool × List (List Nat × List Nat) := (true, [([], []), ([0], [0]), ([], []), ([2], [2]), ([1, 3], [1, 3]), ([], []), ([5], [5]), ([], []), ([6, 7, 4], [6, 7]), ([], []), ([9], [9]), ([], []), ([11], [11]), ([], []), ([13], [13]), ([12, 14], [12, 14]), ([10, 15, 8], [10, 15]), ([4, 8, 16], [4, 8, 16]), ([17, 16], [17]), ([18, 18, 0, 1, 2, 3, 4, 5, 6, 7, 8, 9, 10, 11, 12, 13, 14, 15, 16, 17, 18], [18])])
def pcap_Put.B4 : List Nat := [0, 1, 0, 4, 15, 0, 32, 0, 255, 0, 512, 0, 2048, 0, 8192, 30720, 65535, 131071, 262143, 524287]
theorem pcap_Put.tab4 : rtab .any (opsOf Tryd.f54 4) = pcap_Put.T4 := by kernel_rfl
theorem pcap_Put.bits4 : waitsOk pcap_Put.T4.2 pcap_Put.B4 = true := by kernel_rfl
set_option maxHeartbeats 8000000 in
set_option maxRecDepth 100000 in
theorem pcap_Put.calls (k : Nat) (a0_0 : Bool) (a0_1 : Bool) (a0_2 : Int) (a0_3 : Int) (A1 : Option Addr) (c1 : Nat) (l1 : List (S51)) (r1 : List Int) (r2 : Int) (w : World) (hr1 : Kd.C k51 w A1 l1.length l1) (hc1 : l1.length ≤ c1) (h : pcap_Put.f k a0_0 a0_1 a0_2 a0_3 l1 = some (r1, r2)) :
  Calls Tryd.prog 54 #[.agg #[.bool a0_0, .bool a0_1, .int .u32 a0_2, .int .u32 a0_3], .slice A1 l1.length c1] w fun e w' => ∃ v0_ : Value, e = .returned (.tuple #[v0_, .int .i64 r2]) ∧ Kd.R (Kd.int .u8) 5 w' w.heap.size (fun _ => True) v0_ r1 ∧ Below w.heap.size w w' := by
 have hu46 := Tryd.underlying46
 have hu51 := Tryd.underlying51
 have HR1 := Aside0.mk hr1
 have HC1 := Aside0.mk hc1
 clear hr1 hc1
 have HB := Aside0.mk (Below.refl w.heap.size w)
 have H : (if a0_1 = true then (pcap_Put.j0 k l1 2712812621 a0_0 a0_1 a0_2 a0_3) else (pcap_Put.j0 k l1 2712847316 a0_0 a0_1 a0_2 a0_3)) = some (r1, r2) := h
 clear h
 have HC3 := Aside0.mk H
 clear H
 go_enter Tryd.func54, Tryd.ntmps54
 go_upto_if 11 with (first | ((with_reducible refine gate_dst (N := 2) rfl ?_); refine box_event ?hg (N := 2) ?hd (cs := #[.bool a0_0, .bool a0_1, .int .u32 a0_2, .int .u32 a0_3]) (t := 46) ?hr ?_; (case hd => rfl); (case hg => rfl); (case hr => (go_simp; done)); intro gb340 hg w4 hbox hb; have BK340 := Aside0.mk (hbox); have GW340 := Aside0.mk ((by rw [hg]; exact (below_size HB.out) : w.heap.size ≤ gb340)); have GE340 := Aside0.mk ((by rw [hg]; exact (below_size HB.out) : w.heap.size ≤ gb340)); replace HB := Aside0.mk (below_step HB.out hb); clear hb hbox hg; have hcz5_0 : w4.cell? ⟨gb340, 0, none⟩ = some (.bool a0_0) := (blk_cell BK340.out 0).trans rfl; have hcz5_1 : w4.cell? ⟨gb340, 1, none⟩ = some (.bool a0_1) := (blk_cell BK340.out 1).trans rfl; have hcz5_2 : w4.cell? ⟨gb340, 2, none⟩ = some (.int .u32 a0_2) := (blk_cell BK340.out 2).trans rfl; have hcz5_3 : w4.cell? ⟨gb340, 3, none⟩ = some (.int .u32 a0_3) := (blk_cell BK340.out 3).trans rfl; have hfz5_0 := blk_frozen BK340.out 0; have hfz5_1 := blk_frozen BK340.out 1; have hfz5_2 := blk_frozen BK340.out 2; have hfz5_3 := blk_frozen BK340.out 3))
 (skip)
 go_cut [6] (fun v6 wc => ∃ (kq : Nat) (x6_2 : Int), v6 = .int .u32 x6_2 ∧ Aside0 (pcap_Put.j0 kq l1 x6_2 a0_0 a0_1 a0_2 a0_3 = some (r1, r2)) ∧ Aside0 (kq ≤ k) ∧ Aside0 (wc.heap[gb340]? = some (.cells #[.bool a0_0, .bool a0_1, .int .u32 a0_2, .int .u32 a0_3] 46 (0, 0))) ∧ Aside0 (Below w.heap.size w wc))
 case first =>
  have H := HC3.out
  clear HC3
  by_cases c6 : a0_1 = true
  ·subst c6
   rw [if_pos rfl] at H
   have H' := Aside0.mk H
   clear H
   go_wp2
   go_meet
   case rel => exact ⟨_, (2712812621), (by (rfl)), H', ⟨by (omega)⟩, ⟨by exact BK340.out⟩, ⟨by exact HB.out⟩⟩
  ·replace c6 := Bool.eq_false_iff.mpr c6
   subst c6
   rw [if_neg (show ¬ (false = true) by decide)] at H
   have H' := Aside0.mk H
   clear H
   go_wp2
   go_meet
   case rel => exact ⟨_, (2712847316), (by (rfl)), H', ⟨by (omega)⟩, ⟨by exact BK340.out⟩, ⟨by exact HB.out⟩⟩
 case rest =>
  clear HC3
  try clear hcz5_0
  try clear hcz5_1
  try clear hcz5_2
  try clear hcz5_3
  try clear hfz5_0
  try clear hfz5_1
  try clear hfz5_2
  try clear hfz5_3
  obtain ⟨kq, x6_2, rfl, HA, HJ2, BK340, HB⟩ := hcut
  cases kq with
  | zero => exact absurd HA.out (by simp [pcap_Put.j0])
  | succ kj2 =>
   have H := HA.out
   clear HA
   simp only [pcap_Put.j0] at H
   obtain ⟨y341, hy341⟩ : ∃ y_ : List Int, y_ = ([x6_2] : List Int) := ⟨_, rfl⟩
   replace H : ((pcap_laid.f kj2 a0_0 4 y341).bind fun t344 => ((pcap_laid.f kj2 a0_0 2 ([2, 4] : List Int)).bind fun t350 => ((pcap_laid.f kj2 a0_0 4 ([0, 0, a0_2, a0_3] : List Int)).bind fun t356 => ((slices_Concat_byte_byte.f ([t344, t350, t356] : List (List Int))).bind fun t362 => (pcap_Put.l0 kj2 t362 l1 (l1.length : Int) 0 a0_0 a0_1 a0_2 a0_3))))) = some (r1, r2) := by (rw [hy341]; with_reducible exact H)
   have Ny341 := Aside0.mk hy341
   clear hy341
   replace H := Option.bind_eq_some_iff.mp H
   obtain ⟨t344, A70, H⟩ := H
   have A7 := Aside0.mk A70
   clear A70
   obtain ⟨y347, hy347⟩ : ∃ y_ : List Int, y_ = ([2, 4] : List Int) := ⟨_, rfl⟩
   replace H : ((pcap_laid.f kj2 a0_0 2 y347).bind fun t350 => ((pcap_laid.f kj2 a0_0 4 ([0, 0, a0_2, a0_3] : List Int)).bind fun t356 => ((slices_Concat_byte_byte.f ([t344, t350, t356] : List (List Int))).bind fun t362 => (pcap_Put.l0 kj2 t362 l1 (l1.length : Int) 0 a0_0 a0_1 a0_2 a0_3)))) = some (r1, r2) := by (rw [hy347]; with_reducible exact H)
   have Ny347 := Aside0.mk hy347
   clear hy347
   replace H := Option.bind_eq_some_iff.mp H
   obtain ⟨t350, A80, H⟩ := H
   have A8 := Aside0.mk A80
   clear A80
   obtain ⟨y353, hy353⟩ : ∃ y_ : List Int, y_ = ([0, 0, a0_2, a0_3] : List Int) := ⟨_, rfl⟩
   replace H : ((pcap_laid.f kj2 a0_0 4 y353).bind fun t356 => ((slices_Concat_byte_byte.f ([t344, t350, t356] : List (List Int))).bind fun t362 => (pcap_Put.l0 kj2 t362 l1 (l1.length : Int) 0 a0_0 a0_1 a0_2 a0_3))) = some (r1, r2) := by (rw [hy353]; with_reducible exact H)
   have Ny353 := Aside0.mk hy353
   clear hy353
   replace H := Option.bind_eq_some_iff.mp H
   obtain ⟨t356, A90, H⟩ := H
   have A9 := Aside0.mk A90
   clear A90
   obtain ⟨y359, hy359⟩ : ∃ y_ : List (List Int), y_ = ([t344, t350, t356] : List (List Int)) := ⟨_, rfl⟩
   replace H : ((slices_Concat_byte_byte.f y359).bind fun t362 => (pcap_Put.l0 kj2 t362 l1 (l1.length : Int) 0 a0_0 a0_1 a0_2 a0_3)) = some (r1, r2) := by (rw [hy359]; with_reducible exact H)
   have Ny359 := Aside0.mk hy359
   clear hy359
   replace H := Option.bind_eq_some_iff.mp H
   obtain ⟨t362, A100, H⟩ := H
   have A10 := Aside0.mk A100
   clear A100
   have H' := Aside0.mk H
   clear H
   try go_wp2
   replace BK340 := Aside0.mk (blk_drew BK340.out)
   replace HB := Aside0.mk (below_drew1 HB.out)
   refine start_ (n := 20) (S := fun w' => True) (ds := []) #[false, false, false, false, false, false, false, false, false, false, false, false, false, false, false, false, false, false, false, false] (by kernel_rfl) rfl rfl trivial (fun hHeld => ?_); refine with_tabW pcap_Put.tab4 pcap_Put.bits4 (fun HT_ HW_ => ?_)
   generalize wc.drew = w11 at BK340 HB hHeld ⊢
   refine pure_ (i := 0) (N := some 12) (v := ?_) (a' := ?_) #[true, false, false, false, false, false, false, false, false, false, false, false, false, false, false, false, false, false, false, false] rfl rfl (any_of HT_.out (by kernel_rfl)) (fun _ _ _ h => h) (Or.inl ⟨by rfl, ?_⟩) ?_ ?_
   rotate_left
   ·intro w'
    go_simp
    with_reducible rfl
   rotate_left
   ·simp only [Act.put, List.setIfInBounds_toArray, List.set_cons_zero, List.set_cons_succ, i64_w, i32_w]
    rfl
   refine pure_ (i := 2) (N := some 14) (v := ?_) (a' := ?_) #[true, false, true, false, false, false, false, false, false, false, false, false, false, false, false, false, false, false, false, false] rfl rfl (any_of HT_.out (by kernel_rfl)) (fun _ _ _ h => h) (Or.inl ⟨by rfl, ?_⟩) ?_ ?_
   rotate_left
   ·intro w'
    go_simp
    with_reducible rfl
   rotate_left
   ·simp only [Act.put, List.setIfInBounds_toArray, List.set_cons_zero, List.set_cons_succ, i64_w, i32_w]
    rfl
   refine pure_ (i := 5) (N := some 17) (v := ?_) (a' := ?_) #[true, false, true, false, false, true, false, false, false, false, false, false, false, false, false, false, false, false, false, false] rfl rfl (any_of HT_.out (by kernel_rfl)) (fun _ _ _ h => h) (Or.inl ⟨by rfl, ?_⟩) ?_ ?_
   rotate_left
   ·intro w'
    go_simp
    with_reducible rfl
   rotate_left
   ·simp only [Act.put, List.setIfInBounds_toArray, List.set_cons_zero, List.set_cons_succ, i64_w, i32_w]
    rfl
   refine pure_ (i := 9) (N := some 21) (v := ?_) (a' := ?_) #[true, false, true, false, false, true, false, false, false, true, false, false, false, false, false, false, false, false, false, false] rfl rfl (any_of HT_.out (by kernel_rfl)) (fun _ _ _ h => h) (Or.inl ⟨by rfl, ?_⟩) ?_ ?_
   rotate_left
   ·intro w'
    go_simp
    with_reducible rfl
   rotate_left
   ·simp only [Act.put, List.setIfInBounds_toArray, List.set_cons_zero, List.set_cons_succ, i64_w, i32_w]
    rfl
   refine pure_ (i := 11) (N := some 23) (v := ?_) (a' := ?_) #[true, false, true, false, false, true, false, false, false, true, false, true, false, false, false, false, false, false, false, false] rfl rfl (any_of HT_.out (by kernel_rfl)) (fun _ _ _ h => h) (Or.inl ⟨by rfl, ?_⟩) ?_ ?_
   rotate_left
   ·intro w'
    go_simp
    with_reducible rfl
   rotate_left
   ·simp only [Act.put, List.setIfInBounds_toArray, List.set_cons_zero, List.set_cons_succ, i64_w, i32_w]
    rfl
   refine pure_ (i := 13) (N := some 25) (v := ?_) (a' := ?_) #[true, false, true, false, false, true, false, false, false, true, false, true, false, true, false, false, false, false, false, false] rfl rfl (any_of HT_.out (by kernel_rfl)) (fun _ _ _ h => h) (Or.inl ⟨by rfl, ?_⟩) ?_ ?_
   rotate_left
   ·intro w'
    go_simp
    with_reducible rfl
   rotate_left
   ·simp only [Act.put, List.setIfInBounds_toArray, List.set_cons_zero, List.set_cons_succ, i64_w, i32_w]
    rfl
   refine inv_at [1, 3, 4, 6, 7, 8, 10, 12, 14, 15, 16, 17, 18, 19] (fun a0_ b a w' => ∃ (v342 : Value) (v345 : Value) (v348 : Value) (v351 : Value) (v354 : Value) (v357 : Value) (v360 : Value) (v363 : Value) (m19_ : Value), a = putSel a0_ b [(1, 13, .bool a0_0), (3, 15, v342), (4, 16, v345), (6, 18, .bool a0_0), (7, 19, v348), (8, 20, v351), (10, 22, .bool a0_0), (12, 24, .int .u32 a0_2), (14, 26, .int .u32 a0_3), (15, 27, v354), (16, 28, v357), (17, 29, v360), (18, 30, v363), (19, 7, m19_)] ∧ (w'.heap[gb340]? = some (.cells #[.bool a0_0, .bool a0_1, .int .u32 a0_2, .int .u32 a0_3] 46 (0, 0))) ∧ (Below w.heap.size w w') ∧ (b 3 = true → Kd.R (Kd.int .u32) 23 w' w.heap.size (fun _ => True) v342 y341) ∧ (b 4 = true → b 17 = false → Kd.R (Kd.int .u8) 5 w' w.heap.size (fun _ => True) v345 t344) ∧ (b 7 = true → Kd.R (Kd.int .u32) 23 w' w.heap.size (fun _ => True) v348 y347) ∧ (b 8 = true → b 17 = false → Kd.R (Kd.int .u8) 5 w' w.heap.size (fun _ => True) v351 t350) ∧ (b 15 = true → Kd.R (Kd.int .u32) 23 w' w.heap.size (fun _ => True) v354 y353) ∧ (b 16 = true → b 17 = false → Kd.R (Kd.int .u8) 5 w' w.heap.size (fun _ => True) v357 t356) ∧ (b 17 = true → Kd.N (Kd.slice 5 (Kd.int .u8)) 22 w' w.heap.size (fun k_ => k_ ≠ gb340) v360 y359) ∧ (b 18 = true → Kd.R (Kd.int .u8) 5 w' w.heap.size (fun _ => True) v363 t362) ∧ (b 19 = true → (m19_ : Value) = v363)) HT_.out HW_.out (by kernel_rfl) (by kernel_rfl) ?_ ?_ ?_
   ·exact ⟨.bool false, .bool false, .bool false, .bool false, .bool false, .bool false, .bool false, .bool false, .bool false, by simp only [putSel, Bool.false_eq_true, if_false], BK340.out, HB.out, fun h_ => absurd h_ (by decide), fun h_ => absurd h_ (by decide), fun h_ => absurd h_ (by decide), fun h_ => absurd h_ (by decide), fun h_ => absurd h_ (by decide), fun h_ => absurd h_ (by decide), fun h_ => absurd h_ (by decide), fun h_ => absurd h_ (by decide), fun h_ => absurd h_ (by decide)⟩
   ·skip
    clear BK340 HB
    refine steps_cons ?_ ?_
    ·rintro b a w' ⟨v342, v345, v348, v351, v354, v357, v360, v363, m19_, ha, Q_BK340, Q_HB, Q_HO343, Q_HO346, Q_HO349, Q_HO352, Q_HO355, Q_HO358, Q_HO361, Q_HO364, Q_X19_⟩ hb_ hon hoff
     refine ⟨_, rfl, fun K hK => ?_⟩
     have e12 : a.tmps[12]? = some (.pointer (some ⟨gb340, 0, none⟩)) := by rw [ha]; exact (putSel_off rfl).trans rfl
     replace ha := Aside0.mk ha
     have BK340 := Aside0.mk Q_BK340
     have HB := Aside0.mk Q_HB
     have hc0_ : w'.cell? ⟨gb340, 0, none⟩ = some (.bool a0_0) := (blk_cell BK340.out 0).trans rfl
     have hc1_ : w'.cell? ⟨gb340, 1, none⟩ = some (.bool a0_1) := (blk_cell BK340.out 1).trans rfl
     have hc2_ : w'.cell? ⟨gb340, 2, none⟩ = some (.int .u32 a0_2) := (blk_cell BK340.out 2).trans rfl
     have hc3_ : w'.cell? ⟨gb340, 3, none⟩ = some (.int .u32 a0_3) := (blk_cell BK340.out 3).trans rfl
     refine value_ (w1 := w') (v := .bool a0_0) (by rfl) rfl ?_ ?_
     ·go_simp
      (skip)
     refine hK.out _ _ ⟨v342, v345, v348, v351, v354, v357, v360, v363, m19_, (by rw [ha.out]; exact putSel_upk 0 hb_ rfl rfl rfl), Q_BK340, Q_HB, Q_HO343, fun h0_ _ => absurd ((hoff 4 (by kernel_rfl)).symm.trans h0_) (by decide), Q_HO349, fun h0_ _ => absurd ((hoff 8 (by kernel_rfl)).symm.trans h0_) (by decide), Q_HO355, fun h0_ _ => absurd ((hoff 16 (by kernel_rfl)).symm.trans h0_) (by decide), fun h0_ => absurd ((hoff 17 (by kernel_rfl)).symm.trans h0_) (by decide), fun h0_ => absurd ((hoff 18 (by kernel_rfl)).symm.trans h0_) (by decide), fun h0_ => absurd ((hoff 19 (by kernel_rfl)).symm.trans h0_) (by decide)⟩
    refine steps_cons ?_ ?_
    ·rintro b a w' ⟨v342, v345, v348, v351, v354, v357, v360, v363, m19_, ha, Q_BK340, Q_HB, Q_HO343, Q_HO346, Q_HO349, Q_HO352, Q_HO355, Q_HO358, Q_HO361, Q_HO364, Q_X19_⟩ hb_ hon hoff
     refine ⟨_, rfl, fun K hK => ?_⟩
     have e14 : a.tmps[14]? = some (.int .u32 x6_2) := by rw [ha]; exact (putSel_off rfl).trans rfl
     replace ha := Aside0.mk ha
     have BK340 := Aside0.mk Q_BK340
     have HB := Aside0.mk Q_HB
     refine Kd.R_lit_step (Kd.int .u32) _ 23 ?hg (N := 15) ?hd (xs := ([x6_2] : List Int)) (inner := [.int .u32 x6_2]) (ok := fun _ => True) (okp := fun _ => True) ?hr ?hp (fun _ hk => hk) trivial (Below.refl _ _) (Nat.le_refl _) (by simp) ?_; (case hd => rfl); (case hg => rfl); (case hr => (go_simp; done)); (case hp => exact (Reps.one (show Kd.M (Kd.int .u32) _ _ _ x6_2 [.int .u32 x6_2] from rfl) (Reps.none _ _)))
     intro v342 w12 ho13 hb hg_ hnew_
     clear hg_ hnew_
     (rw [← Ny341.out] at ho13)
     have n0_ := Aside0.mk (Kd.R_lower ho13 (below_size HB.out))
     have n1_ := Aside0.mk (blk_below BK340.out hb)
     have n2_ := Aside0.mk (below_step HB.out hb)
     have z_HO349 := fun (h0_ : b 7 = true) => (show Kd.R (Kd.int .u32) 23 w12 w.heap.size (fun _ => True) v348 y347 from by (exact Kd.R_mono (Kd.R_elder' (by exact (Q_HO349 h0_)) (by (exact Kd.R_base ho13)) hb) (fun _ h_ => by (trivial))))
     have z_HO355 := fun (h0_ : b 15 = true) => (show Kd.R (Kd.int .u32) 23 w12 w.heap.size (fun _ => True) v354 y353 from by (exact Kd.R_mono (Kd.R_elder' (by exact (Q_HO355 h0_)) (by (exact Kd.R_base ho13)) hb) (fun _ h_ => by (trivial))))
     clear BK340
     clear HB
     have HO343 := n0_
     have BK340 := n1_
     have HB := n2_
     clear n0_ n1_ n2_
     clear hb ho13
     refine hK.out _ _ ⟨v342, v345, v348, v351, v354, v357, v360, v363, m19_, (by rw [ha.out]; exact putSel_upk 1 hb_ rfl rfl rfl), BK340.out, HB.out, fun _ => (by (exact HO343.out)), fun h0_ _ => absurd ((hoff 4 (by kernel_rfl)).symm.trans h0_) (by decide), z_HO349, fun h0_ _ => absurd ((hoff 8 (by kernel_rfl)).symm.trans h0_) (by decide), z_HO355, fun h0_ _ => absurd ((hoff 16 (by kernel_rfl)).symm.trans h0_) (by decide), fun h0_ => absurd ((hoff 17 (by kernel_rfl)).symm.trans h0_) (by decide), fun h0_ => absurd ((hoff 18 (by kernel_rfl)).symm.trans h0_) (by decide), fun h0_ => absurd ((hoff 19 (by kernel_rfl)).symm.trans h0_) (by decide)⟩
    refine steps_cons ?_ ?_
    ·rintro b a w' ⟨v342, v345, v348, v351, v354, v357, v360, v363, m19_, ha, Q_BK340, Q_HB, Q_HO343, Q_HO346, Q_HO349, Q_HO352, Q_HO355, Q_HO358, Q_HO361, Q_HO364, Q_X19_⟩ hb_ hon hoff
     refine ⟨_, rfl, fun K hK => ?_⟩
     have e13 : a.tmps[13]? = some (.bool a0_0) := by rw [ha]; exact putSel_on (e := (1, 13, .bool a0_0)) 0 rfl rfl (hon 1 (by kernel_rfl)) rfl
     have e15 : a.tmps[15]? = some (v342) := by rw [ha]; exact putSel_on (e := (3, 15, v342)) 1 rfl rfl (hon 3 (by kernel_rfl)) rfl
     replace ha := Aside0.mk ha
     have BK340 := Aside0.mk Q_BK340
     have HB := Aside0.mk Q_HB
     have HO343 := Aside0.mk (Q_HO343 (hon 3 (by kernel_rfl)))
     obtain ⟨Ao15, co15, eo15⟩ := Kd.R_slice HO343.out
     (subst eo15)
     refine goes_ Tryd.func74 (by kernel_rfl) rfl #[.bool a0_0, .int .i64 4, .slice Ao15 y341.length co15] (by rfl) rfl rfl (by (simp only [List.map_toArray, List.map_cons, List.map_nil, Act.eval, Array.getD_eq_getD_getElem?, Option.getD_some, e13, e15]; done)) ?_
     with_reducible refine (pcap_laid.calls kj2 a0_0 4 _ _ y341 t344 _ ?side1 ?side2 A7.out).mono ?_
     (case side1 => exact (Kd.R_reads' HO343.out).2.2)
     (case side2 => exact (Kd.R_reads' HO343.out).2.1)
     rintro e w16 ⟨v345, rfl, ho0, hb⟩
     refine ⟨_, rfl, ?_⟩
     have n0_ := Aside0.mk (Kd.R_below (by (exact HO343.out)) hb)
     have n1_ := Aside0.mk (Kd.R_lower ho0 (below_size HB.out))
     have n2_ := Aside0.mk (blk_below BK340.out hb)
     have n3_ := Aside0.mk (below_step HB.out hb)
     have z_HO349 := fun (h0_ : b 7 = true) => (show Kd.R (Kd.int .u32) 23 w16 w.heap.size (fun _ => True) v348 y347 from by (exact (Kd.R_below (by exact (Q_HO349 h0_)) hb)))
     have z_HO355 := fun (h0_ : b 15 = true) => (show Kd.R (Kd.int .u32) 23 w16 w.heap.size (fun _ => True) v354 y353 from by (exact (Kd.R_below (by exact (Q_HO355 h0_)) hb)))
     clear HO343
     clear BK340
     clear HB
     have HO343 := n0_
     have HO346 := n1_
     have BK340 := n2_
     have HB := n3_
     clear n0_ n1_ n2_ n3_
     (try clear hb)
     (skip)
     (skip)
     (skip)
     (try clear ho0)
     refine hK.out _ _ ⟨.slice Ao15 y341.length co15, v345, v348, v351, v354, v357, v360, v363, m19_, (by rw [ha.out]; exact putSel_upk 2 hb_ rfl rfl rfl), BK340.out, HB.out, fun _ => (by (exact HO343.out)), fun _ _ => (by (exact HO346.out)), z_HO349, fun h0_ _ => absurd ((hoff 8 (by kernel_rfl)).symm.trans h0_) (by decide), z_HO355, fun h0_ _ => absurd ((hoff 16 (by kernel_rfl)).symm.trans h0_) (by decide), fun h0_ => absurd ((hoff 17 (by kernel_rfl)).symm.trans h0_) (by decide), fun h0_ => absurd ((hoff 18 (by kernel_rfl)).symm.trans h0_) (by decide), fun h0_ => absurd ((hoff 19 (by kernel_rfl)).symm.trans h0_) (by decide)⟩
    refine steps_cons ?_ ?_
    ·rintro b a w' ⟨v342, v345, v348, v351, v354, v357, v360, v363, m19_, ha, Q_BK340, Q_HB, Q_HO343, Q_HO346, Q_HO349, Q_HO352, Q_HO355, Q_HO358, Q_HO361, Q_HO364, Q_X19_⟩ hb_ hon hoff
     refine ⟨_, rfl, fun K hK => ?_⟩
     have e17 : a.tmps[17]? = some (.pointer (some ⟨gb340, 0, none⟩)) := by rw [ha]; exact (putSel_off rfl).trans rfl
     replace ha := Aside0.mk ha
     have BK340 := Aside0.mk Q_BK340
     have HB := Aside0.mk Q_HB
     have hc0_ : w'.cell? ⟨gb340, 0, none⟩ = some (.bool a0_0) := (blk_cell BK340.out 0).trans rfl
     have hc1_ : w'.cell? ⟨gb340, 1, none⟩ = some (.bool a0_1) := (blk_cell BK340.out 1).trans rfl
     have hc2_ : w'.cell? ⟨gb340, 2, none⟩ = some (.int .u32 a0_2) := (blk_cell BK340.out 2).trans rfl
     have hc3_ : w'.cell? ⟨gb340, 3, none⟩ = some (.int .u32 a0_3) := (blk_cell BK340.out 3).trans rfl
     refine value_ (w1 := w') (v := .bool a0_0) (by rfl) rfl ?_ ?_
     ·go_simp
      (skip)
     refine hK.out _ _ ⟨v342, v345, v348, v351, v354, v357, v360, v363, m19_, (by rw [ha.out]; exact putSel_upk 3 hb_ rfl rfl rfl), Q_BK340, Q_HB, Q_HO343, Q_HO346, Q_HO349, fun h0_ _ => absurd ((hoff 8 (by kernel_rfl)).symm.trans h0_) (by decide), Q_HO355, fun h0_ _ => absurd ((hoff 16 (by kernel_rfl)).symm.trans h0_) (by decide), fun h0_ => absurd ((hoff 17 (by kernel_rfl)).symm.trans h0_) (by decide), fun h0_ => absurd ((hoff 18 (by kernel_rfl)).symm.trans h0_) (by decide), fun h0_ => absurd ((hoff 19 (by kernel_rfl)).symm.trans h0_) (by decide)⟩
    refine steps_cons ?_ ?_
    ·rintro b a w' ⟨v342, v345, v348, v351, v354, v357, v360, v363, m19_, ha, Q_BK340, Q_HB, Q_HO343, Q_HO346, Q_HO349, Q_HO352, Q_HO355, Q_HO358, Q_HO361, Q_HO364, Q_X19_⟩ hb_ hon hoff
     refine ⟨_, rfl, fun K hK => ?_⟩
     replace ha := Aside0.mk ha
     have BK340 := Aside0.mk Q_BK340
     have HB := Aside0.mk Q_HB
     refine Kd.R_lit_step (Kd.int .u32) _ 23 ?hg (N := 19) ?hd (xs := ([2, 4] : List Int)) (inner := [.int .u32 2, .int .u32 4]) (ok := fun _ => True) (okp := fun _ => True) ?hr ?hp (fun _ hk => hk) trivial (Below.refl _ _) (Nat.le_refl _) (by simp) ?_; (case hd => rfl); (case hg => rfl); (case hr => (go_simp; done)); (case hp => exact (Reps.one (show Kd.M (Kd.int .u32) _ _ _ 2 [.int .u32 2] from rfl) (Reps.one (show Kd.M (Kd.int .u32) _ _ _ 4 [.int .u32 4] from rfl) (Reps.none _ _))))
     intro v348 w12 ho13 hb hg_ hnew_
     clear hg_ hnew_
     (rw [← Ny347.out] at ho13)
     have n0_ := Aside0.mk (Kd.R_lower ho13 (below_size HB.out))
     have n1_ := Aside0.mk (blk_below BK340.out hb)
     have n2_ := Aside0.mk (below_step HB.out hb)
     have z_HO343 := fun (h0_ : b 3 = true) => (show Kd.R (Kd.int .u32) 23 w12 w.heap.size (fun _ => True) v342 y341 from by (exact Kd.R_mono (Kd.R_elder' (by exact (Q_HO343 h0_)) (by (exact Kd.R_base ho13)) hb) (fun _ h_ => by (trivial))))
     have z_HO346 := fun (h0_ : b 4 = true) (h1_ : b 17 = false) => (show Kd.R (Kd.int .u8) 5 w12 w.heap.size (fun _ => True) v345 t344 from by (exact (Kd.R_below (by exact (Q_HO346 h0_ h1_)) hb)))
     have z_HO355 := fun (h0_ : b 15 = true) => (show Kd.R (Kd.int .u32) 23 w12 w.heap.size (fun _ => True) v354 y353 from by (exact Kd.R_mono (Kd.R_elder' (by exact (Q_HO355 h0_)) (by (exact Kd.R_base ho13)) hb) (fun _ h_ => by (trivial))))
     clear BK340
     clear HB
     have HO349 := n0_
     have BK340 := n1_
     have HB := n2_
     clear n0_ n1_ n2_
     clear hb ho13
     refine hK.out _ _ ⟨v342, v345, v348, v351, v354, v357, v360, v363, m19_, (by rw [ha.out]; exact putSel_upk 4 hb_ rfl rfl rfl), BK340.out, HB.out, z_HO343, z_HO346, fun _ => (by (exact HO349.out)), fun h0_ _ => absurd ((hoff 8 (by kernel_rfl)).symm.trans h0_) (by decide), z_HO355, fun h0_ _ => absurd ((hoff 16 (by kernel_rfl)).symm.trans h0_) (by decide), fun h0_ => absurd ((hoff 17 (by kernel_rfl)).symm.trans h0_) (by decide), fun h0_ => absurd ((hoff 18 (by kernel_rfl)).symm.trans h0_) (by decide), fun h0_ => absurd ((hoff 19 (by kernel_rfl)).symm.trans h0_) (by decide)⟩
    refine steps_cons ?_ ?_
    ·rintro b a w' ⟨v342, v345, v348, v351, v354, v357, v360, v363, m19_, ha, Q_BK340, Q_HB, Q_HO343, Q_HO346, Q_HO349, Q_HO352, Q_HO355, Q_HO358, Q_HO361, Q_HO364, Q_X19_⟩ hb_ hon hoff
     refine ⟨_, rfl, fun K hK => ?_⟩
     have e18 : a.tmps[18]? = some (.bool a0_0) := by rw [ha]; exact putSel_on (e := (6, 18, .bool a0_0)) 3 rfl rfl (hon 6 (by kernel_rfl)) rfl
     have e19 : a.tmps[19]? = some (v348) := by rw [ha]; exact putSel_on (e := (7, 19, v348)) 4 rfl rfl (hon 7 (by kernel_rfl)) rfl
     replace ha := Aside0.mk ha
     have BK340 := Aside0.mk Q_BK340
     have HB := Aside0.mk Q_HB
     have HO343 := Aside0.mk (Q_HO343 (hon 3 (by kernel_rfl)))
     have HO346 := Aside0.mk (Q_HO346 (hon 4 (by kernel_rfl)) (hoff 17 (by kernel_rfl)))
     have HO349 := Aside0.mk (Q_HO349 (hon 7 (by kernel_rfl)))
     obtain ⟨Ao19, co19, eo19⟩ := Kd.R_slice HO349.out
     (subst eo19)
     refine goes_ Tryd.func74 (by kernel_rfl) rfl #[.bool a0_0, .int .i64 2, .slice Ao19 y347.length co19] (by rfl) rfl rfl (by (simp only [List.map_toArray, List.map_cons, List.map_nil, Act.eval, Array.getD_eq_getD_getElem?, Option.getD_some, e18, e19]; done)) ?_
     with_reducible refine (pcap_laid.calls kj2 a0_0 2 _ _ y347 t350 _ ?side1 ?side2 A8.out).mono ?_
     (case side1 => exact (Kd.R_reads' HO349.out).2.2)
     (case side2 => exact (Kd.R_reads' HO349.out).2.1)
     rintro e w20 ⟨v351, rfl, ho0, hb⟩
     refine ⟨_, rfl, ?_⟩
     have n0_ := Aside0.mk (Kd.R_below (by (exact HO343.out)) hb)
     have n1_ := Aside0.mk (Kd.R_elder' (by (exact HO346.out)) (by (exact Kd.R_base ho0)) hb)
     have n2_ := Aside0.mk (Kd.R_below (by (exact HO349.out)) hb)
     have n3_ := Aside0.mk (Kd.R_lower (Kd.R_new' ho0 (Kd.R_lt (by (exact HO346.out)))) (below_size HB.out))
     have n4_ := Aside0.mk (blk_below BK340.out hb)
     have n5_ := Aside0.mk (below_step HB.out hb)
     have z_HO355 := fun (h0_ : b 15 = true) => (show Kd.R (Kd.int .u32) 23 w20 w.heap.size (fun _ => True) v354 y353 from by (exact (Kd.R_below (by exact (Q_HO355 h0_)) hb)))
     clear HO343
     clear HO346
     clear HO349
     clear BK340
     clear HB
     have HO343 := n0_
     have HO346 := n1_
     have HO349 := n2_
     have HO352 := n3_
     have BK340 := n4_
     have HB := n5_
     clear n0_ n1_ n2_ n3_ n4_ n5_
     (try clear hb)
     (skip)
     (skip)
     (skip)
     (try clear ho0)
     refine hK.out _ _ ⟨v342, v345, .slice Ao19 y347.length co19, v351, v354, v357, v360, v363, m19_, (by rw [ha.out]; exact putSel_upk 5 hb_ rfl rfl rfl), BK340.out, HB.out, fun _ => (by (exact HO343.out)), fun _ _ => (by (exact Kd.R_mono HO346.out (fun _ hk => trivial))), fun _ => (by (exact HO349.out)), fun _ _ => (by (exact Kd.R_mono HO352.out (fun _ hk => trivial))), z_HO355, fun h0_ _ => absurd ((hoff 16 (by kernel_rfl)).symm.trans h0_) (by decide), fun h0_ => absurd ((hoff 17 (by kernel_rfl)).symm.trans h0_) (by decide), fun h0_ => absurd ((hoff 18 (by kernel_rfl)).symm.trans h0_) (by decide), fun h0_ => absurd ((hoff 19 (by kernel_rfl)).symm.trans h0_) (by decide)⟩
    refine steps_cons ?_ ?_
    ·rintro b a w' ⟨v342, v345, v348, v351, v354, v357, v360, v363, m19_, ha, Q_BK340, Q_HB, Q_HO343, Q_HO346, Q_HO349, Q_HO352, Q_HO355, Q_HO358, Q_HO361, Q_HO364, Q_X19_⟩ hb_ hon hoff
     refine ⟨_, rfl, fun K hK => ?_⟩
     have e21 : a.tmps[21]? = some (.pointer (some ⟨gb340, 0, none⟩)) := by rw [ha]; exact (putSel_off rfl).trans rfl
     replace ha := Aside0.mk ha
     have BK340 := Aside0.mk Q_BK340
     have HB := Aside0.mk Q_HB
     have hc0_ : w'.cell? ⟨gb340, 0, none⟩ = some (.bool a0_0) := (blk_cell BK340.out 0).trans rfl
     have hc1_ : w'.cell? ⟨gb340, 1, none⟩ = some (.bool a0_1) := (blk_cell BK340.out 1).trans rfl
     have hc2_ : w'.cell? ⟨gb340, 2, none⟩ = some (.int .u32 a0_2) := (blk_cell BK340.out 2).trans rfl
     have hc3_ : w'.cell? ⟨gb340, 3, none⟩ = some (.int .u32 a0_3) := (blk_cell BK340.out 3).trans rfl
     refine value_ (w1 := w') (v := .bool a0_0) (by rfl) rfl ?_ ?_
     ·go_simp
      (skip)
     refine hK.out _ _ ⟨v342, v345, v348, v351, v354, v357, v360, v363, m19_, (by rw [ha.out]; exact putSel_upk 6 hb_ rfl rfl rfl), Q_BK340, Q_HB, Q_HO343, Q_HO346, Q_HO349, Q_HO352, Q_HO355, fun h0_ _ => absurd ((hoff 16 (by kernel_rfl)).symm.trans h0_) (by decide), fun h0_ => absurd ((hoff 17 (by kernel_rfl)).symm.trans h0_) (by decide), fun h0_ => absurd ((hoff 18 (by kernel_rfl)).symm.trans h0_) (by decide), fun h0_ => absurd ((hoff 19 (by kernel_rfl)).symm.trans h0_) (by decide)⟩
    refine steps_cons ?_ ?_
    ·rintro b a w' ⟨v342, v345, v348, v351, v354, v357, v360, v363, m19_, ha, Q_BK340, Q_HB, Q_HO343, Q_HO346, Q_HO349, Q_HO352, Q_HO355, Q_HO358, Q_HO361, Q_HO364, Q_X19_⟩ hb_ hon hoff
     refine ⟨_, rfl, fun K hK => ?_⟩
     have e23 : a.tmps[23]? = some (.pointer (some ⟨gb340, 2, none⟩)) := by rw [ha]; exact (putSel_off rfl).trans rfl
     replace ha := Aside0.mk ha
     have BK340 := Aside0.mk Q_BK340
     have HB := Aside0.mk Q_HB
     have hc0_ : w'.cell? ⟨gb340, 0, none⟩ = some (.bool a0_0) := (blk_cell BK340.out 0).trans rfl
     have hc1_ : w'.cell? ⟨gb340, 1, none⟩ = some (.bool a0_1) := (blk_cell BK340.out 1).trans rfl
     have hc2_ : w'.cell? ⟨gb340, 2, none⟩ = some (.int .u32 a0_2) := (blk_cell BK340.out 2).trans rfl
     have hc3_ : w'.cell? ⟨gb340, 3, none⟩ = some (.int .u32 a0_3) := (blk_cell BK340.out 3).trans rfl
     refine value_ (w1 := w') (v := .int .u32 a0_2) (by rfl) rfl ?_ ?_
     ·go_simp
      (skip)
     refine hK.out _ _ ⟨v342, v345, v348, v351, v354, v357, v360, v363, m19_, (by rw [ha.out]; exact putSel_upk 7 hb_ rfl rfl rfl), Q_BK340, Q_HB, Q_HO343, Q_HO346, Q_HO349, Q_HO352, fun h0_ => absurd ((hoff 15 (by kernel_rfl)).symm.trans h0_) (by decide), fun h0_ _ => absurd ((hoff 16 (by kernel_rfl)).symm.trans h0_) (by decide), fun h0_ => absurd ((hoff 17 (by kernel_rfl)).symm.trans h0_) (by decide), fun h0_ => absurd ((hoff 18 (by kernel_rfl)).symm.trans h0_) (by decide), fun h0_ => absurd ((hoff 19 (by kernel_rfl)).symm.trans h0_) (by decide)⟩
    refine steps_cons ?_ ?_
    ·rintro b a w' ⟨v342, v345, v348, v351, v354, v357, v360, v363, m19_, ha, Q_BK340, Q_HB, Q_HO343, Q_HO346, Q_HO349, Q_HO352, Q_HO355, Q_HO358, Q_HO361, Q_HO364, Q_X19_⟩ hb_ hon hoff
     refine ⟨_, rfl, fun K hK => ?_⟩
     have e25 : a.tmps[25]? = some (.pointer (some ⟨gb340, 3, none⟩)) := by rw [ha]; exact (putSel_off rfl).trans rfl
     replace ha := Aside0.mk ha
     have BK340 := Aside0.mk Q_BK340
     have HB := Aside0.mk Q_HB
     have hc0_ : w'.cell? ⟨gb340, 0, none⟩ = some (.bool a0_0) := (blk_cell BK340.out 0).trans rfl
     have hc1_ : w'.cell? ⟨gb340, 1, none⟩ = some (.bool a0_1) := (blk_cell BK340.out 1).trans rfl
     have hc2_ : w'.cell? ⟨gb340, 2, none⟩ = some (.int .u32 a0_2) := (blk_cell BK340.out 2).trans rfl
     have hc3_ : w'.cell? ⟨gb340, 3, none⟩ = some (.int .u32 a0_3) := (blk_cell BK340.out 3).trans rfl
     refine value_ (w1 := w') (v := .int .u32 a0_3) (by rfl) rfl ?_ ?_
     ·go_simp
      (skip)
     refine hK.out _ _ ⟨v342, v345, v348, v351, v354, v357, v360, v363, m19_, (by rw [ha.out]; exact putSel_upk 8 hb_ rfl rfl rfl), Q_BK340, Q_HB, Q_HO343, Q_HO346, Q_HO349, Q_HO352, fun h0_ => absurd ((hoff 15 (by kernel_rfl)).symm.trans h0_) (by decide), fun h0_ _ => absurd ((hoff 16 (by kernel_rfl)).symm.trans h0_) (by decide), fun h0_ => absurd ((hoff 17 (by kernel_rfl)).symm.trans h0_) (by decide), fun h0_ => absurd ((hoff 18 (by kernel_rfl)).symm.trans h0_) (by decide), fun h0_ => absurd ((hoff 19 (by kernel_rfl)).symm.trans h0_) (by decide)⟩
    refine steps_cons ?_ ?_
    ·rintro b a w' ⟨v342, v345, v348, v351, v354, v357, v360, v363, m19_, ha, Q_BK340, Q_HB, Q_HO343, Q_HO346, Q_HO349, Q_HO352, Q_HO355, Q_HO358, Q_HO361, Q_HO364, Q_X19_⟩ hb_ hon hoff
     refine ⟨_, rfl, fun K hK => ?_⟩
     have e24 : a.tmps[24]? = some (.int .u32 a0_2) := by rw [ha]; exact putSel_on (e := (12, 24, .int .u32 a0_2)) 7 rfl rfl (hon 12 (by kernel_rfl)) rfl
     have e26 : a.tmps[26]? = some (.int .u32 a0_3) := by rw [ha]; exact putSel_on (e := (14, 26, .int .u32 a0_3)) 8 rfl rfl (hon 14 (by kernel_rfl)) rfl
     replace ha := Aside0.mk ha
     have BK340 := Aside0.mk Q_BK340
     have HB := Aside0.mk Q_HB
     refine Kd.R_lit_step (Kd.int .u32) _ 23 ?hg (N := 27) ?hd (xs := ([0, 0, a0_2, a0_3] : List Int)) (inner := [.int .u32 0, .int .u32 0, .int .u32 a0_2, .int .u32 a0_3]) (ok := fun _ => True) (okp := fun _ => True) ?hr ?hp (fun _ hk => hk) trivial (Below.refl _ _) (Nat.le_refl _) (by simp) ?_; (case hd => rfl); (case hg => rfl); (case hr => (go_simp; done)); (case hp => exact (Reps.one (show Kd.M (Kd.int .u32) _ _ _ 0 [.int .u32 0] from rfl) (Reps.one (show Kd.M (Kd.int .u32) _ _ _ 0 [.int .u32 0] from rfl) (Reps.one (show Kd.M (Kd.int .u32) _ _ _ a0_2 [.int .u32 a0_2] from rfl) (Reps.one (show Kd.M (Kd.int .u32) _ _ _ a0_3 [.int .u32 a0_3] from rfl) (Reps.none _ _))))))
     intro v354 w12 ho13 hb hg_ hnew_
     clear hg_ hnew_
     (rw [← Ny353.out] at ho13)
     have n0_ := Aside0.mk (Kd.R_lower ho13 (below_size HB.out))
     have n1_ := Aside0.mk (blk_below BK340.out hb)
     have n2_ := Aside0.mk (below_step HB.out hb)
     have z_HO343 := fun (h0_ : b 3 = true) => (show Kd.R (Kd.int .u32) 23 w12 w.heap.size (fun _ => True) v342 y341 from by (exact Kd.R_mono (Kd.R_elder' (by exact (Q_HO343 h0_)) (by (exact Kd.R_base ho13)) hb) (fun _ h_ => by (trivial))))
     have z_HO346 := fun (h0_ : b 4 = true) (h1_ : b 17 = false) => (show Kd.R (Kd.int .u8) 5 w12 w.heap.size (fun _ => True) v345 t344 from by (exact (Kd.R_below (by exact (Q_HO346 h0_ h1_)) hb)))
     have z_HO349 := fun (h0_ : b 7 = true) => (show Kd.R (Kd.int .u32) 23 w12 w.heap.size (fun _ => True) v348 y347 from by (exact Kd.R_mono (Kd.R_elder' (by exact (Q_HO349 h0_)) (by (exact Kd.R_base ho13)) hb) (fun _ h_ => by (trivial))))
     have z_HO352 := fun (h0_ : b 8 = true) (h1_ : b 17 = false) => (show Kd.R (Kd.int .u8) 5 w12 w.heap.size (fun _ => True) v351 t350 from by (exact (Kd.R_below (by exact (Q_HO352 h0_ h1_)) hb)))
     clear BK340
     clear HB
     have HO355 := n0_
     have BK340 := n1_
     have HB := n2_
     clear n0_ n1_ n2_
     clear hb ho13
     refine hK.out _ _ ⟨v342, v345, v348, v351, v354, v357, v360, v363, m19_, (by rw [ha.out]; exact putSel_upk 9 hb_ rfl rfl rfl), BK340.out, HB.out, z_HO343, z_HO346, z_HO349, z_HO352, fun _ => (by (exact HO355.out)), fun h0_ _ => absurd ((hoff 16 (by kernel_rfl)).symm.trans h0_) (by decide), fun h0_ => absurd ((hoff 17 (by kernel_rfl)).symm.trans h0_) (by decide), fun h0_ => absurd ((hoff 18 (by kernel_rfl)).symm.trans h0_) (by decide), fun h0_ => absurd ((hoff 19 (by kernel_rfl)).symm.trans h0_) (by decide)⟩
    refine steps_cons ?_ ?_
    ·rintro b a w' ⟨v342, v345, v348, v351, v354, v357, v360, v363, m19_, ha, Q_BK340, Q_HB, Q_HO343, Q_HO346, Q_HO349, Q_HO352, Q_HO355, Q_HO358, Q_HO361, Q_HO364, Q_X19_⟩ hb_ hon hoff
     refine ⟨_, rfl, fun K hK => ?_⟩
     have e22 : a.tmps[22]? = some (.bool a0_0) := by rw [ha]; exact putSel_on (e := (10, 22, .bool a0_0)) 6 rfl rfl (hon 10 (by kernel_rfl)) rfl
     have e27 : a.tmps[27]? = some (v354) := by rw [ha]; exact putSel_on (e := (15, 27, v354)) 9 rfl rfl (hon 15 (by kernel_rfl)) rfl
     replace ha := Aside0.mk ha
     have BK340 := Aside0.mk Q_BK340
     have HB := Aside0.mk Q_HB
     have HO343 := Aside0.mk (Q_HO343 (hon 3 (by kernel_rfl)))
     have HO346 := Aside0.mk (Q_HO346 (hon 4 (by kernel_rfl)) (hoff 17 (by kernel_rfl)))
     have HO349 := Aside0.mk (Q_HO349 (hon 7 (by kernel_rfl)))
     have HO352 := Aside0.mk (Q_HO352 (hon 8 (by kernel_rfl)) (hoff 17 (by kernel_rfl)))
     have HO355 := Aside0.mk (Q_HO355 (hon 15 (by kernel_rfl)))
     obtain ⟨Ao23, co23, eo23⟩ := Kd.R_slice HO355.out
     (subst eo23)
     refine goes_ Tryd.func74 (by kernel_rfl) rfl #[.bool a0_0, .int .i64 4, .slice Ao23 y353.length co23] (by rfl) rfl rfl (by (simp only [List.map_toArray, List.map_cons, List.map_nil, Act.eval, Array.getD_eq_getD_getElem?, Option.getD_some, e22, e27]; done)) ?_
     with_reducible refine (pcap_laid.calls kj2 a0_0 4 _ _ y353 t356 _ ?side1 ?side2 A9.out).mono ?_
     (case side1 => exact (Kd.R_reads' HO355.out).2.2)
     (case side2 => exact (Kd.R_reads' HO355.out).2.1)
     rintro e w24 ⟨v357, rfl, ho0, hb⟩
     refine ⟨_, rfl, ?_⟩
     have HO358 := Aside0.mk (Kd.R_lower (Kd.R_new' (Kd.R_new' ho0 (Kd.R_lt (by (exact HO346.out)))) (Kd.R_lt (by (exact HO352.out)))) (below_size HB.out))
     replace HO343 := Aside0.mk (Kd.R_below (by (exact HO343.out)) hb)
     replace HO346 := Aside0.mk (Kd.R_elder' (by (exact HO346.out)) (by (exact Kd.R_base ho0)) hb)
     replace HO349 := Aside0.mk (Kd.R_below (by (exact HO349.out)) hb)
     replace HO352 := Aside0.mk (Kd.R_elder' (by (exact HO352.out)) (by (exact Kd.R_base ho0)) hb)
     replace HO355 := Aside0.mk (Kd.R_below (by (exact HO355.out)) hb)
     replace BK340 := Aside0.mk (blk_below BK340.out hb)
     replace HB := Aside0.mk (below_step HB.out hb)
     (try clear hb)
     (skip)
     (skip)
     (skip)
     (try clear ho0)
     refine hK.out _ _ ⟨v342, v345, v348, v351, .slice Ao23 y353.length co23, v357, v360, v363, m19_, (by rw [ha.out]; exact putSel_upk 10 hb_ rfl rfl rfl), BK340.out, HB.out, fun _ => (by (exact HO343.out)), fun _ _ => (by (exact Kd.R_mono HO346.out (fun _ hk => trivial))), fun _ => (by (exact HO349.out)), fun _ _ => (by (exact Kd.R_mono HO352.out (fun _ hk => trivial))), fun _ => (by (exact HO355.out)), fun _ _ => (by (exact Kd.R_mono HO358.out (fun _ hk => trivial))), fun h0_ => absurd ((hoff 17 (by kernel_rfl)).symm.trans h0_) (by decide), fun h0_ => absurd ((hoff 18 (by kernel_rfl)).symm.trans h0_) (by decide), fun h0_ => absurd ((hoff 19 (by kernel_rfl)).symm.trans h0_) (by decide)⟩
    refine steps_cons ?_ ?_
    ·rintro b a w' ⟨v342, v345, v348, v351, v354, v357, v360, v363, m19_, ha, Q_BK340, Q_HB, Q_HO343, Q_HO346, Q_HO349, Q_HO352, Q_HO355, Q_HO358, Q_HO361, Q_HO364, Q_X19_⟩ hb_ hon hoff
     refine ⟨_, rfl, fun K hK => ?_⟩
     have e16 : a.tmps[16]? = some (v345) := by rw [ha]; exact putSel_on (e := (4, 16, v345)) 2 rfl rfl (hon 4 (by kernel_rfl)) rfl
     have e20 : a.tmps[20]? = some (v351) := by rw [ha]; exact putSel_on (e := (8, 20, v351)) 5 rfl rfl (hon 8 (by kernel_rfl)) rfl
     have e28 : a.tmps[28]? = some (v357) := by rw [ha]; exact putSel_on (e := (16, 28, v357)) 10 rfl rfl (hon 16 (by kernel_rfl)) rfl
     replace ha := Aside0.mk ha
     have BK340 := Aside0.mk Q_BK340
     have HB := Aside0.mk Q_HB
     have HO343 := Aside0.mk (Q_HO343 (hon 3 (by kernel_rfl)))
     have HO346 := Aside0.mk (Q_HO346 (hon 4 (by kernel_rfl)) hb_)
     have HO349 := Aside0.mk (Q_HO349 (hon 7 (by kernel_rfl)))
     have HO352 := Aside0.mk (Q_HO352 (hon 8 (by kernel_rfl)) hb_)
     have HO355 := Aside0.mk (Q_HO355 (hon 15 (by kernel_rfl)))
     have HO358 := Aside0.mk (Q_HO358 (hon 16 (by kernel_rfl)) hb_)
     obtain ⟨Ao25, co25, eo25⟩ := Kd.R_slice HO346.out
     (subst eo25)
     obtain ⟨Ao26, co26, eo26⟩ := Kd.R_slice HO352.out
     (subst eo26)
     obtain ⟨Ao27, co27, eo27⟩ := Kd.R_slice HO358.out
     (subst eo27)
     refine Kd.N_lit_step (Kd.slice 5 (Kd.int .u8)) _ 22 ?hg (N' := 29) ?hd (xs := ([t344, t350, t356] : List (List Int))) (inner := [.slice Ao25 t344.length co25, .slice Ao26 t350.length co26, .slice Ao27 t356.length co27]) (ok := (fun k_ => some k_ ≠ (v342 : Value).ownBlock ∧ some k_ ≠ (v348 : Value).ownBlock ∧ some k_ ≠ (v354 : Value).ownBlock ∧ k_ ≠ gb340)) (okp := (fun k_ => some k_ ≠ (v342 : Value).ownBlock ∧ some k_ ≠ (v348 : Value).ownBlock ∧ some k_ ≠ (v354 : Value).ownBlock ∧ k_ ≠ gb340)) ?hr ?hp (fun _ hk => hk) ((show ∀ k_, w'.heap.size ≤ k_ → (fun k_ => some k_ ≠ (v342 : Value).ownBlock ∧ some k_ ≠ (v348 : Value).ownBlock ∧ some k_ ≠ (v354 : Value).ownBlock ∧ k_ ≠ gb340) k_ from fun k_ hk => ⟨Kd.fresh' (Kd.R_lt (by (exact HO343.out))) k_ hk, Kd.fresh' (Kd.R_lt (by (exact HO349.out))) k_ hk, Kd.fresh' (Kd.R_lt (by (exact HO355.out))) k_ hk, Kd.freshB BK340.out k_ hk⟩) _ (Nat.le_refl _)) (Below.refl _ _) (Nat.le_refl _) (by simp) ?_; (case hd => rfl); (case hg => rfl); (case hr => (go_simp; done)); (case hp => exact (Reps.one (show Kd.FK (Kd.slice 5 (Kd.int .u8)) _ _ t344 [.slice Ao25 t344.length co25] from (Kd.FK_slice_mk (Kd.R_reads' (Kd.R_mono (ok' := (fun k_ => some k_ ≠ (v342 : Value).ownBlock ∧ some k_ ≠ (v348 : Value).ownBlock ∧ some k_ ≠ (v354 : Value).ownBlock ∧ k_ ≠ gb340)) (Kd.R_types (Kd.R_apart' (Kd.R_apart' (Kd.R_apart' (HO346.out) (Kd.R_typed HO343.out) (by decide)) (Kd.R_typed HO349.out) (by decide)) (Kd.R_typed HO355.out) (by decide)) BK340.out (by decide)) (fun k_ hk => ⟨hk.1.1.1.2, ⟨hk.1.1.2, ⟨hk.1.2, hk.2⟩⟩⟩))).2.1 (Kd.R_F (Kd.R_mono (ok' := (fun k_ => some k_ ≠ (v342 : Value).ownBlock ∧ some k_ ≠ (v348 : Value).ownBlock ∧ some k_ ≠ (v354 : Value).ownBlock ∧ k_ ≠ gb340)) (Kd.R_types (Kd.R_apart' (Kd.R_apart' (Kd.R_apart' (HO346.out) (Kd.R_typed HO343.out) (by decide)) (Kd.R_typed HO349.out) (by decide)) (Kd.R_typed HO355.out) (by decide)) BK340.out (by decide)) (fun k_ hk => ⟨hk.1.1.1.2, ⟨hk.1.1.2, ⟨hk.1.2, hk.2⟩⟩⟩))))) (Reps.one (show Kd.FK (Kd.slice 5 (Kd.int .u8)) _ _ t350 [.slice Ao26 t350.length co26] from (Kd.FK_slice_mk (Kd.R_reads' (Kd.R_mono (ok' := (fun k_ => some k_ ≠ (v342 : Value).ownBlock ∧ some k_ ≠ (v348 : Value).ownBlock ∧ some k_ ≠ (v354 : Value).ownBlock ∧ k_ ≠ gb340)) (Kd.R_types (Kd.R_apart' (Kd.R_apart' (Kd.R_apart' (HO352.out) (Kd.R_typed HO343.out) (by decide)) (Kd.R_typed HO349.out) (by decide)) (Kd.R_typed HO355.out) (by decide)) BK340.out (by decide)) (fun k_ hk => ⟨hk.1.1.1.2, ⟨hk.1.1.2, ⟨hk.1.2, hk.2⟩⟩⟩))).2.1 (Kd.R_F (Kd.R_mono (ok' := (fun k_ => some k_ ≠ (v342 : Value).ownBlock ∧ some k_ ≠ (v348 : Value).ownBlock ∧ some k_ ≠ (v354 : Value).ownBlock ∧ k_ ≠ gb340)) (Kd.R_types (Kd.R_apart' (Kd.R_apart' (Kd.R_apart' (HO352.out) (Kd.R_typed HO343.out) (by decide)) (Kd.R_typed HO349.out) (by decide)) (Kd.R_typed HO355.out) (by decide)) BK340.out (by decide)) (fun k_ hk => ⟨hk.1.1.1.2, ⟨hk.1.1.2, ⟨hk.1.2, hk.2⟩⟩⟩))))) (Reps.one (show Kd.FK (Kd.slice 5 (Kd.int .u8)) _ _ t356 [.slice Ao27 t356.length co27] from (Kd.FK_slice_mk (Kd.R_reads' (Kd.R_mono (ok' := (fun k_ => some k_ ≠ (v342 : Value).ownBlock ∧ some k_ ≠ (v348 : Value).ownBlock ∧ some k_ ≠ (v354 : Value).ownBlock ∧ k_ ≠ gb340)) (Kd.R_types (Kd.R_apart' (Kd.R_apart' (Kd.R_apart' (HO358.out) (Kd.R_typed HO343.out) (by decide)) (Kd.R_typed HO349.out) (by decide)) (Kd.R_typed HO355.out) (by decide)) BK340.out (by decide)) (fun k_ hk => ⟨hk.1.1.1.2, ⟨hk.1.1.2, ⟨hk.1.2, hk.2⟩⟩⟩))).2.1 (Kd.R_F (Kd.R_mono (ok' := (fun k_ => some k_ ≠ (v342 : Value).ownBlock ∧ some k_ ≠ (v348 : Value).ownBlock ∧ some k_ ≠ (v354 : Value).ownBlock ∧ k_ ≠ gb340)) (Kd.R_types (Kd.R_apart' (Kd.R_apart' (Kd.R_apart' (HO358.out) (Kd.R_typed HO343.out) (by decide)) (Kd.R_typed HO349.out) (by decide)) (Kd.R_typed HO355.out) (by decide)) BK340.out (by decide)) (fun k_ hk => ⟨hk.1.1.1.2, ⟨hk.1.1.2, ⟨hk.1.2, hk.2⟩⟩⟩))))) (Reps.none _ _)))))
     intro v360 w28 ho29 hb hg_ hnew_
     clear hg_ hnew_
     (rw [← Ny359.out] at ho29)
     have HO361 := Aside0.mk (Kd.N_lower ho29 (below_size HB.out))
     replace HO343 := Aside0.mk (Kd.R_below (by (exact HO343.out)) hb)
     replace HO349 := Aside0.mk (Kd.R_below (by (exact HO349.out)) hb)
     replace HO355 := Aside0.mk (Kd.R_below (by (exact HO355.out)) hb)
     replace BK340 := Aside0.mk (blk_below BK340.out hb)
     replace HB := Aside0.mk (below_step HB.out hb)
     clear HO346
     clear HO352
     clear HO358
     clear hb ho29
     refine hK.out _ _ ⟨v342, .slice Ao25 t344.length co25, v348, .slice Ao26 t350.length co26, v354, .slice Ao27 t356.length co27, v360, v363, m19_, (by rw [ha.out]; exact putSel_upk 11 hb_ rfl rfl rfl), BK340.out, HB.out, fun _ => (by (exact HO343.out)), fun _ h1_ => absurd ((up_self b 17).symm.trans h1_) (by decide), fun _ => (by (exact HO349.out)), fun _ h1_ => absurd ((up_self b 17).symm.trans h1_) (by decide), fun _ => (by (exact HO355.out)), fun _ h1_ => absurd ((up_self b 17).symm.trans h1_) (by decide), fun _ => (by (exact Kd.N_mono HO361.out (fun _ hk => hk.2.2.2))), fun h0_ => absurd ((hoff 18 (by kernel_rfl)).symm.trans h0_) (by decide), fun h0_ => absurd ((hoff 19 (by kernel_rfl)).symm.trans h0_) (by decide)⟩
    refine steps_cons ?_ ?_
    ·rintro b a w' ⟨v342, v345, v348, v351, v354, v357, v360, v363, m19_, ha, Q_BK340, Q_HB, Q_HO343, Q_HO346, Q_HO349, Q_HO352, Q_HO355, Q_HO358, Q_HO361, Q_HO364, Q_X19_⟩ hb_ hon hoff
     refine ⟨_, rfl, fun K hK => ?_⟩
     have e29 : a.tmps[29]? = some (v360) := by rw [ha]; exact putSel_on (e := (17, 29, v360)) 11 rfl rfl (hon 17 (by kernel_rfl)) rfl
     replace ha := Aside0.mk ha
     have BK340 := Aside0.mk Q_BK340
     have HB := Aside0.mk Q_HB
     have HO343 := Aside0.mk (Q_HO343 (hon 3 (by kernel_rfl)))
     have HO349 := Aside0.mk (Q_HO349 (hon 7 (by kernel_rfl)))
     have HO355 := Aside0.mk (Q_HO355 (hon 15 (by kernel_rfl)))
     have HO361 := Aside0.mk (Q_HO361 (hon 17 (by kernel_rfl)))
     obtain ⟨Ao30, co30, eo30⟩ := Kd.N_slice HO361.out
     (subst eo30)
     refine goes_ Tryd.func73 (by kernel_rfl) rfl #[.slice Ao30 y359.length co30] (by rfl) rfl rfl (by (simp only [List.map_toArray, List.map_cons, List.map_nil, Act.eval, Array.getD_eq_getD_getElem?, Option.getD_some, e29]; done)) ?_
     with_reducible refine (slices_Concat_byte_byte.calls _ _ y359 t362 _ ?side1 ?side2 A10.out).mono ?_
     (case side1 => exact (Kd.N_reads' HO361.out).2.2)
     (case side2 => exact (Kd.N_reads' HO361.out).2.1)
     rintro e w31 ⟨v363, rfl, ho0, hb⟩
     refine ⟨_, rfl, ?_⟩
     have HO364 := Aside0.mk (Kd.R_lower ho0 (below_size HB.out))
     replace HO343 := Aside0.mk (Kd.R_below (by (exact HO343.out)) hb)
     replace HO349 := Aside0.mk (Kd.R_below (by (exact HO349.out)) hb)
     replace HO355 := Aside0.mk (Kd.R_below (by (exact HO355.out)) hb)
     replace HO361 := Aside0.mk (Kd.N_elder' (by (exact HO361.out)) (by (exact Kd.R_base ho0)) hb)
     replace BK340 := Aside0.mk (blk_below BK340.out hb)
     replace HB := Aside0.mk (below_step HB.out hb)
     (try clear hb)
     (skip)
     (skip)
     (skip)
     (try clear ho0)
     refine hK.out _ _ ⟨v342, v345, v348, v351, v354, v357, .slice Ao30 y359.length co30, v363, m19_, (by rw [ha.out]; exact putSel_upk 12 hb_ rfl rfl rfl), BK340.out, HB.out, fun _ => (by (exact HO343.out)), fun _ h1_ => absurd ((hon 17 (by kernel_rfl)).symm.trans h1_) (by decide), fun _ => (by (exact HO349.out)), fun _ h1_ => absurd ((hon 17 (by kernel_rfl)).symm.trans h1_) (by decide), fun _ => (by (exact HO355.out)), fun _ h1_ => absurd ((hon 17 (by kernel_rfl)).symm.trans h1_) (by decide), fun _ => (by (exact Kd.N_mono HO361.out (fun _ hk => hk.1))), fun _ => (by (exact HO364.out)), fun h0_ => absurd ((hoff 19 (by kernel_rfl)).symm.trans h0_) (by decide)⟩
    refine steps_cons ?_ ?_
    ·rintro b a w' ⟨v342, v345, v348, v351, v354, v357, v360, v363, m19_, ha, Q_BK340, Q_HB, Q_HO343, Q_HO346, Q_HO349, Q_HO352, Q_HO355, Q_HO358, Q_HO361, Q_HO364, Q_X19_⟩ hb_ hon hoff
     refine ⟨_, rfl, fun K hK => ?_⟩
     have e30 : a.tmps[30]? = some (v363) := by rw [ha]; exact putSel_on (e := (18, 30, v363)) 12 rfl rfl (hon 18 (by kernel_rfl)) rfl
     replace ha := Aside0.mk ha
     have BK340 := Aside0.mk Q_BK340
     have HB := Aside0.mk Q_HB
     have HO343 := Aside0.mk (Q_HO343 (hon 3 (by kernel_rfl)))
     have HO349 := Aside0.mk (Q_HO349 (hon 7 (by kernel_rfl)))
     have HO355 := Aside0.mk (Q_HO355 (hon 15 (by kernel_rfl)))
     have HO361 := Aside0.mk (Q_HO361 (hon 17 (by kernel_rfl)))
     have HO364 := Aside0.mk (Q_HO364 (hon 18 (by kernel_rfl)))
     refine value_ (w1 := w') (v := v363) (by rfl) rfl ?_ ?_
     ·go_simp
      (skip)
     refine hK.out _ _ ⟨v342, v345, v348, v351, v354, v357, v360, v363, (v363), (by rw [ha.out]; exact putSel_upk 13 hb_ rfl rfl rfl), Q_BK340, Q_HB, Q_HO343, fun _ h1_ => absurd ((hon 17 (by kernel_rfl)).symm.trans h1_) (by decide), Q_HO349, fun _ h1_ => absurd ((hon 17 (by kernel_rfl)).symm.trans h1_) (by decide), Q_HO355, fun _ h1_ => absurd ((hon 17 (by kernel_rfl)).symm.trans h1_) (by decide), Q_HO361, Q_HO364, fun _ => rfl⟩
    exact steps_nil
   rintro b a w31 hall ⟨v342, v345, v348, v351, v354, v357, v360, v363, m19_, ha, Q_BK340, Q_HB, Q_HO343, Q_HO346, Q_HO349, Q_HO352, Q_HO355, Q_HO358, Q_HO361, Q_HO364, Q_X19_⟩
   clear BK340 HB
   have hb1_ := hall 1 (by kernel_rfl)
   have hb3_ := hall 3 (by kernel_rfl)
   have hb4_ := hall 4 (by kernel_rfl)
   have hb6_ := hall 6 (by kernel_rfl)
   have hb7_ := hall 7 (by kernel_rfl)
   have hb8_ := hall 8 (by kernel_rfl)
   have hb10_ := hall 10 (by kernel_rfl)
   have hb12_ := hall 12 (by kernel_rfl)
   have hb14_ := hall 14 (by kernel_rfl)
   have hb15_ := hall 15 (by kernel_rfl)
   have hb16_ := hall 16 (by kernel_rfl)
   have hb17_ := hall 17 (by kernel_rfl)
   have hb18_ := hall 18 (by kernel_rfl)
   have hb19_ := hall 19 (by kernel_rfl)
   subst ha
   obtain rfl := Q_X19_ hb19_
   simp only [putSel, hb1_, hb3_, hb4_, hb6_, hb7_, hb8_, hb10_, hb12_, hb14_, hb15_, hb16_, hb17_, hb18_, hb19_, if_true, Act.put, List.setIfInBounds_toArray, List.set_cons_zero, List.set_cons_succ]
   have BK340 := Aside0.mk Q_BK340
   clear Q_BK340
   have HB := Aside0.mk Q_HB
   clear Q_HB
   have HO343 := Aside0.mk (Q_HO343 hb3_)
   clear Q_HO343
   clear Q_HO346
   have HO349 := Aside0.mk (Q_HO349 hb7_)
   clear Q_HO349
   clear Q_HO352
   have HO355 := Aside0.mk (Q_HO355 hb15_)
   clear Q_HO355
   clear Q_HO358
   have HO361 := Aside0.mk (Q_HO361 hb17_)
   clear Q_HO361
   have HO364 := Aside0.mk (Q_HO364 hb18_)
   clear Q_HO364
   clear hall hb1_ hb3_ hb4_ hb6_ hb7_ hb8_ hb10_ hb12_ hb14_ hb15_ hb16_ hb17_ hb18_ hb19_
   try go_wp2
   go_loopg [7, 33] kj2 (fun kq v7 v33 w' => ∃ (x7_2 : List Int) (x33_2 : Int), v33 = .int .i64 x33_2 ∧ Aside0 (pcap_Put.l0 kq x7_2 l1 (l1.length : Int) x33_2 a0_0 a0_1 a0_2 a0_3 = some (r1, r2)) ∧ Aside0 (kq ≤ kj2) ∧ Aside0 (Kd.R (Kd.int .u8) 5 w' w.heap.size (fun _ => True) v7 x7_2) ∧ Aside0 (w'.heap[gb340]? = some (.cells #[.bool a0_0, .bool a0_1, .int .u32 a0_2, .int .u32 a0_3] 46 (0, 0))) ∧ Aside0 (Below w.heap.size w w'))
   case atStart => exact ⟨(t362), (0), (by (rfl)), H', ⟨Nat.le_refl _⟩, ⟨by exact HO364.out⟩, ⟨by exact BK340.out⟩, ⟨by exact HB.out⟩⟩
   case round =>
    clear H'
    obtain ⟨x7_2, x33_2, rfl, HA, HK2, HO_7, BK340, HB⟩ := hrel
    cases gk with
    | zero => exact absurd HA.out (by simp [pcap_Put.l0])
    | succ k2 =>
     have H := HA.out
     clear HA
     simp only [pcap_Put.l0] at H
     by_cases c32 : x33_2 < (l1.length : Int)
     ·rw [if_pos c32] at H
      have c32b0 : decide (x33_2 < (l1.length : Int)) = true := decide_eq_true c32
      clear c32
      by_cases c33 : 0 ≤ x33_2
      ·rw [if_pos c33] at H
       have c33b0 : decide (0 ≤ x33_2) = true := decide_eq_true c33
       clear c33
       by_cases c34 : x33_2 < (l1.length : Int)
       ·rw [if_pos c34] at H
        have c34b0 : decide (x33_2 < (l1.length : Int)) = true := decide_eq_true c34
        clear c34
        by_cases c35 : (((rd_T51 l1 x33_2).f3).length : Int) > 131072
        ·rw [if_pos c35] at H
         have c35b0 : decide (131072 < (((rd_T51 l1 x33_2).f3).length : Int)) = true := decide_eq_true c35
         have c35b1 : decide (131072 < ((rd_T51 l1 x33_2).f3).length) = true := decide_eq_true (by omega)
         clear c35
         simp only [Option.some.injEq, Prod.mk.injEq] at H
         obtain ⟨rfl, rfl⟩ := H
         have p365 : 0 ≤ (x33_2 : Int) := of_decide_eq_true (by (with_reducible assumption))
         have q365 : x33_2 < (l1.length : Int) := of_decide_eq_true (by (with_reducible assumption))
         obtain ⟨ad365, A365_3, c365_3, e365, hx365_0, hx365_1, hx365_2, hx365_3, hl365_3, hi365_3⟩ := at_T51 HR1.out x33_2 p365 q365
         cases e365
         replace hx365_0 := (HB.out.cell (World.block_lt_of_cell? w _ hx365_0)).trans hx365_0
         replace hx365_1 := (HB.out.cell (World.block_lt_of_cell? w _ hx365_1)).trans hx365_1
         replace hx365_2 := (HB.out.cell (World.block_lt_of_cell? w _ hx365_2)).trans hx365_2
         replace hx365_3 := (HB.out.cell (World.block_lt_of_cell? w _ hx365_3)).trans hx365_3
         have HR365_3 := Aside0.mk hi365_3
         have HC365_3 := Aside0.mk hl365_3
         clear hi365_3 hl365_3
         replace p365 := eq_true p365
         replace q365 := eq_true q365
         go_wp2_with (first | ((with_reducible refine gate_dst (N := 9) rfl ?_); refine box_event ?hg (N := 9) ?hd (cs := #[.int .u32 0, .int .u32 0, .int .u32 0, .slice none 0 0]) (t := 51) ?hr ?_; (case hd => rfl); (case hg => rfl); (case hr => (go_simp; done)); intro gb366 hg w36 hbox hb; have BK366 := Aside0.mk (hbox); have GW366 := Aside0.mk ((by rw [hg]; exact (below_size HB.out) : w.heap.size ≤ gb366)); have GE366 := Aside0.mk ((by rw [hg]; exact (below_size HB.out) : w.heap.size ≤ gb366)); have NB340_366 := Aside0.mk ((by rw [hg]; exact Nat.ne_of_lt (blk_lt BK340.out) : gb340 ≠ gb366)); have NB366_340 := Aside0.mk ((by rw [hg]; exact Nat.ne_of_gt (blk_lt BK340.out) : gb366 ≠ gb340)); replace HO_7 := Aside0.mk (Kd.R_below HO_7.out hb); replace BK340 := Aside0.mk (blk_below BK340.out hb); replace HB := Aside0.mk (below_step HB.out hb); clear hb hbox hg; have hnb37 := NB366_340.out; have hnc37 := NB340_366.out; have hcz38_0 : w36.cell? ⟨gb366, 0, none⟩ = some (.int .u32 0) := (blk_cell BK366.out 0).trans rfl; have hcz38_1 : w36.cell? ⟨gb366, 1, none⟩ = some (.int .u32 0) := (blk_cell BK366.out 1).trans rfl; have hcz38_2 : w36.cell? ⟨gb366, 2, none⟩ = some (.int .u32 0) := (blk_cell BK366.out 2).trans rfl; have hcz38_3 : w36.cell? ⟨gb366, 3, none⟩ = some (.slice none 0 0) := (blk_cell BK366.out 3).trans rfl; have hfz38_0 := blk_frozen BK366.out 0; have hfz38_1 := blk_frozen BK366.out 1; have hfz38_2 := blk_frozen BK366.out 2; have hfz38_3 := blk_frozen BK366.out 3))
         go_ret2
         exact ⟨_, by (rfl), by (exact Kd.R_nil _ _ _ _ _), by repeat (with_reducible first | exact HB.out | refine below_set ?_ GE366.out)⟩
        ·rw [if_neg c35] at H
         have c35b0 : decide (131072 < (((rd_T51 l1 x33_2).f3).length : Int)) = false := decide_eq_false c35
         have c35b1 : decide (131072 < ((rd_T51 l1 x33_2).f3).length) = false := decide_eq_false (by omega)
         clear c35
         obtain ⟨y367, hy367⟩ : ∃ y_ : List Int, y_ = (([(rd_T51 l1 x33_2).f0, (rd_T51 l1 x33_2).f1, ((((rd_T51 l1 x33_2).f3).length : Int)) % 4294967296, (rd_T51 l1 x33_2).f2] : List Int)) := ⟨_, rfl⟩
         replace H : ((pcap_laid.f k2 a0_0 4 y367).bind fun t370 => (if x7_2.length + t370.length < 140737488355328 then ((some (x7_2 ++ t370 : List Int)).bind fun y373 => (if y373.length + ((rd_T51 l1 x33_2).f3).length < 140737488355328 then (pcap_Put.l0 k2 (y373 ++ ((rd_T51 l1 x33_2).f3)) l1 (l1.length : Int) (wrap64 (x33_2 + 1)) a0_0 a0_1 a0_2 a0_3) else (none))) else (none))) = some (r1, r2) := by (rw [hy367]; with_reducible exact H)
         have Ny367 := Aside0.mk hy367
         clear hy367
         replace H := Option.bind_eq_some_iff.mp H
         obtain ⟨t370, A390, H⟩ := H
         have A39 := Aside0.mk A390
         clear A390
         by_cases c40 : x7_2.length + t370.length < 140737488355328
         ·rw [if_pos c40] at H
          have LMc40 := Aside0.mk c40
          clear c40
          obtain ⟨y373, hy373⟩ : ∃ y_ : List Int, y_ = (x7_2 ++ t370) := ⟨_, rfl⟩
          replace H : (if y373.length + ((rd_T51 l1 x33_2).f3).length < 140737488355328 then (pcap_Put.l0 k2 (y373 ++ ((rd_T51 l1 x33_2).f3)) l1 (l1.length : Int) (wrap64 (x33_2 + 1)) a0_0 a0_1 a0_2 a0_3) else (none)) = some (r1, r2) := by (have H2_ := (Option.bind_some _ _).symm.trans H; rw [hy373]; with_reducible exact H2_)
          have Ny373 := Aside0.mk hy373
          clear hy373
          by_cases c41 : y373.length + ((rd_T51 l1 x33_2).f3).length < 140737488355328
          ·rw [if_pos c41] at H
           have LMc41 := Aside0.mk c41
           clear c41
           obtain ⟨y376, hy376⟩ : ∃ y_ : List Int, y_ = (y373 ++ ((rd_T51 l1 x33_2).f3)) := ⟨_, rfl⟩
           replace H : (pcap_Put.l0 k2 y376 l1 (l1.length : Int) (wrap64 (x33_2 + 1)) a0_0 a0_1 a0_2 a0_3) = some (r1, r2) := by (rw [hy376]; with_reducible exact H)
           have Ny376 := Aside0.mk hy376
           clear hy376
           have H' := Aside0.mk H
           clear H
           have p365 : 0 ≤ (x33_2 : Int) := of_decide_eq_true (by (with_reducible assumption))
           have q365 : x33_2 < (l1.length : Int) := of_decide_eq_true (by (with_reducible assumption))
           obtain ⟨ad365, A365_3, c365_3, e365, hx365_0, hx365_1, hx365_2, hx365_3, hl365_3, hi365_3⟩ := at_T51 HR1.out x33_2 p365 q365
           cases e365
           replace hx365_0 := (HB.out.cell (World.block_lt_of_cell? w _ hx365_0)).trans hx365_0
           replace hx365_1 := (HB.out.cell (World.block_lt_of_cell? w _ hx365_1)).trans hx365_1
           replace hx365_2 := (HB.out.cell (World.block_lt_of_cell? w _ hx365_2)).trans hx365_2
           replace hx365_3 := (HB.out.cell (World.block_lt_of_cell? w _ hx365_3)).trans hx365_3
           have HR365_3 := Aside0.mk hi365_3
           have HC365_3 := Aside0.mk hl365_3
           clear hi365_3 hl365_3
           replace p365 := eq_true p365
           replace q365 := eq_true q365
           go_wp2_with (first | ((with_reducible refine gate_dst (N := 9) rfl ?_); refine box_event ?hg (N := 9) ?hd (cs := #[.int .u32 0, .int .u32 0, .int .u32 0, .slice none 0 0]) (t := 51) ?hr ?_; (case hd => rfl); (case hg => rfl); (case hr => (go_simp; done)); intro gb366 hg w42 hbox hb; have BK366 := Aside0.mk (hbox); have GW366 := Aside0.mk ((by rw [hg]; exact (below_size HB.out) : w.heap.size ≤ gb366)); have GE366 := Aside0.mk ((by rw [hg]; exact (below_size HB.out) : w.heap.size ≤ gb366)); have NB340_366 := Aside0.mk ((by rw [hg]; exact Nat.ne_of_lt (blk_lt BK340.out) : gb340 ≠ gb366)); have NB366_340 := Aside0.mk ((by rw [hg]; exact Nat.ne_of_gt (blk_lt BK340.out) : gb366 ≠ gb340)); replace HO_7 := Aside0.mk (Kd.R_below HO_7.out hb); replace BK340 := Aside0.mk (blk_below BK340.out hb); replace HB := Aside0.mk (below_step HB.out hb); clear hb hbox hg; have hnb43 := NB366_340.out; have hnc43 := NB340_366.out; have hcz44_0 : w42.cell? ⟨gb366, 0, none⟩ = some (.int .u32 0) := (blk_cell BK366.out 0).trans rfl; have hcz44_1 : w42.cell? ⟨gb366, 1, none⟩ = some (.int .u32 0) := (blk_cell BK366.out 1).trans rfl; have hcz44_2 : w42.cell? ⟨gb366, 2, none⟩ = some (.int .u32 0) := (blk_cell BK366.out 2).trans rfl; have hcz44_3 : w42.cell? ⟨gb366, 3, none⟩ = some (.slice none 0 0) := (blk_cell BK366.out 3).trans rfl; have hfz44_0 := blk_frozen BK366.out 0; have hfz44_1 := blk_frozen BK366.out 1; have hfz44_2 := blk_frozen BK366.out 2; have hfz44_3 := blk_frozen BK366.out 3; have hcz45_0 : w42.cell? ⟨gb340, 0, none⟩ = some (.bool a0_0) := (blk_cell BK340.out 0).trans rfl; have hcz45_1 : w42.cell? ⟨gb340, 1, none⟩ = some (.bool a0_1) := (blk_cell BK340.out 1).trans rfl; have hcz45_2 : w42.cell? ⟨gb340, 2, none⟩ = some (.int .u32 a0_2) := (blk_cell BK340.out 2).trans rfl; have hcz45_3 : w42.cell? ⟨gb340, 3, none⟩ = some (.int .u32 a0_3) := (blk_cell BK340.out 3).trans rfl; have hfz45_0 := blk_frozen BK340.out 0; have hfz45_1 := blk_frozen BK340.out 1; have hfz45_2 := blk_frozen BK340.out 2; have hfz45_3 := blk_frozen BK340.out 3) | ((with_reducible refine gate_dst (N := 54) rfl ?_); refine Kd.R_lit (Kd.int .u32) _ 23 ?hg (N := 54) ?hd (xs := ([(rd_T51 l1 x33_2).f0, (rd_T51 l1 x33_2).f1, ((((rd_T51 l1 x33_2).f3).length : Int)) % 4294967296, (rd_T51 l1 x33_2).f2] : List Int)) (inner := [.int .u32 ((rd_T51 l1 x33_2).f0), .int .u32 ((rd_T51 l1 x33_2).f1), .int .u32 (((((rd_T51 l1 x33_2).f3).length : Int)) % 4294967296), .int .u32 ((rd_T51 l1 x33_2).f2)]) (ok := fun _ => True) (okp := fun _ => True) ?hr ?hp (fun _ hk => hk) trivial (Below.refl _ _) (Nat.le_refl _) (by simp) ?_; (case hd => rfl); (case hg => rfl); (case hr => (go_simp; done)); (case hp => exact (Reps.one (show Kd.M (Kd.int .u32) _ _ _ ((rd_T51 l1 x33_2).f0) [.int .u32 ((rd_T51 l1 x33_2).f0)] from rfl) (Reps.one (show Kd.M (Kd.int .u32) _ _ _ ((rd_T51 l1 x33_2).f1) [.int .u32 ((rd_T51 l1 x33_2).f1)] from rfl) (Reps.one (show Kd.M (Kd.int .u32) _ _ _ (((((rd_T51 l1 x33_2).f3).length : Int)) % 4294967296) [.int .u32 (((((rd_T51 l1 x33_2).f3).length : Int)) % 4294967296)] from rfl) (Reps.one (show Kd.M (Kd.int .u32) _ _ _ ((rd_T51 l1 x33_2).f2) [.int .u32 ((rd_T51 l1 x33_2).f2)] from rfl) (Reps.none _ _)))))); intro v368 w46 ho47 hb hg_ hnew_; clear hg_ hnew_; (rw [← Ny367.out] at ho47); have HO369 := Aside0.mk (Kd.R_lower ho47 (below_size (by repeat (with_reducible first | exact HB.out | refine below_set ?_ GE366.out)))); replace HO_7 := Aside0.mk (Kd.R_below (by exact (Kd.R_mono (Kd.R_far (p := ⟨gb366, 3, none⟩) (Kd.R_far (p := ⟨gb366, 2, none⟩) (Kd.R_far (p := ⟨gb366, 1, none⟩) (Kd.R_far (p := ⟨gb366, 0, none⟩) (Kd.R_types HO_7.out BK366.out (by decide)) (fun _ hk => hk.2) (.int .u32 ((rd_T51 l1 x33_2).f0))) (fun _ hk => hk.2) (.int .u32 ((rd_T51 l1 x33_2).f1))) (fun _ hk => hk.2) (.int .u32 ((rd_T51 l1 x33_2).f2))) (fun _ hk => hk.2) (.slice A365_3 ((rd_T51 l1 x33_2).f3).length c365_3)) (fun _ h_ => h_.1))) hb); replace BK340 := Aside0.mk (blk_below (g := gb340) (o := .cells #[.bool a0_0, .bool a0_1, .int .u32 a0_2, .int .u32 a0_3] 46 (0, 0)) (by refine blk_far ?_ NB340_366.out _; refine blk_far ?_ NB340_366.out _; refine blk_far ?_ NB340_366.out _; refine blk_far ?_ NB340_366.out _; exact BK340.out) hb); replace BK366 := Aside0.mk (blk_below (g := gb366) (o := .cells #[.int .u32 ((rd_T51 l1 x33_2).f0), .int .u32 ((rd_T51 l1 x33_2).f1), .int .u32 ((rd_T51 l1 x33_2).f2), .slice A365_3 ((rd_T51 l1 x33_2).f3).length c365_3] 51 (0, 0)) (by refine blk_put (cs := #[.int .u32 ((rd_T51 l1 x33_2).f0), .int .u32 ((rd_T51 l1 x33_2).f1), .int .u32 ((rd_T51 l1 x33_2).f2), .slice none 0 0]) ?_ 3 _ rfl; refine blk_put (cs := #[.int .u32 ((rd_T51 l1 x33_2).f0), .int .u32 ((rd_T51 l1 x33_2).f1), .int .u32 0, .slice none 0 0]) ?_ 2 _ rfl; refine blk_put (cs := #[.int .u32 ((rd_T51 l1 x33_2).f0), .int .u32 0, .int .u32 0, .slice none 0 0]) ?_ 1 _ rfl; refine blk_put (cs := #[.int .u32 0, .int .u32 0, .int .u32 0, .slice none 0 0]) ?_ 0 _ rfl; exact BK366.out) hb); replace HB := Aside0.mk (below_step (by repeat (with_reducible first | exact HB.out | refine below_set ?_ GE366.out)) hb); clear hb ho47; obtain ⟨Ao48, co48, eo48⟩ := Kd.R_slice HO369.out; subst eo48) | ((with_reducible refine gate_callee (f := 74) rfl ?_); refine goesL_ (some 55) rfl rfl Tryd.func74 (by kernel_rfl) rfl #[.bool a0_0, .int .i64 4, .slice Ao48 y367.length co48] rfl (by (try simp only [List.map_toArray, List.map_cons, List.map_nil]); (rfl)) ?_; (with_reducible refine (pcap_laid.calls k2 a0_0 4 _ _ y367 t370 _ ?side1 ?side2 A39.out).mono ?_); (case side1 => exact (Kd.R_reads' HO369.out).2.2); (case side2 => exact (Kd.R_reads' HO369.out).2.1); rintro e w49 ⟨v371, rfl, ho0, hb⟩; refine ⟨_, rfl, ?_⟩; have HO372 := Aside0.mk (Kd.R_lower (Kd.R_new' ho0 (Kd.R_lt HO_7.out)) (below_size HB.out)); replace HO_7 := Aside0.mk (Kd.R_elder' HO_7.out (by (exact Kd.R_base ho0)) hb); replace HO369 := Aside0.mk (Kd.R_below (by (exact HO369.out)) hb); replace BK340 := Aside0.mk (blk_below BK340.out hb); replace BK366 := Aside0.mk (blk_below BK366.out hb); replace HB := Aside0.mk (below_step HB.out hb); (try clear hb); (try clear ho0); obtain ⟨Ao51, co51, eo51⟩ := Kd.R_slice HO372.out; subst eo51) | ((with_reducible refine gate_builtin (b := .append) (xs := #[.tmp 41, .tmp 55]) rfl ?_); at_builtin; refine Kd.R_append_rows (Kd.int .u8) (w0 := w) w.heap.size rfl (.tmp 41) (.tmp 55) 22 5 (.int .u8 0) 1 rfl Tryd.underlying22 info5 rfl (by decide) (by omega) u7 x7_2 t370 _ _ _ (fun k_ => some k_ ≠ (.slice Ao51 t370.length co51 : Value).ownBlock) (fun _ => False) rfl rfl ?aO ?aR (fun _ _ h => h) (fun _ h => h.elim) ?aF ?aB ?aS ?aL ?_; (case aR => exact (Kd.R_reads' HO372.out).2.2); (case aB => exact HB.out); (case aF => exact (fun k_ hk => Kd.fresh' (Kd.R_lt (by (exact HO372.out))) k_ hk)); (case aO => exact (by exact Kd.R_mono HO_7.out (fun _ hk => hk.2))); (case aS => exact (below_size HB.out)); (case aL => have := LMc40.out; omega); intro v374 w50 ho hb hg hat; rw [← Ny373.out] at ho; have HO375 := Aside0.mk (ho); replace BK340 := Aside0.mk (blk_grown BK340.out hg (Kd.R_ne HO_7.out BK340.out (by decide))); replace BK366 := Aside0.mk (blk_grown BK366.out hg (Kd.R_ne HO_7.out BK366.out (by decide))); replace HO369 := Aside0.mk (Kd.R_over' (by (exact HO369.out)) (Kd.R_typed HO_7.out) (by decide) hg); replace HO372 := Aside0.mk (Kd.R_after (ok := (fun _ => True)) (by (exact HO372.out)) hg hat); replace HB := Aside0.mk (hb); clear HO_7; clear ho hb hg hat; have hcz52_0 : w50.cell? ⟨gb366, 0, none⟩ = some (.int .u32 ((rd_T51 l1 x33_2).f0)) := (blk_cell BK366.out 0).trans rfl; have hcz52_1 : w50.cell? ⟨gb366, 1, none⟩ = some (.int .u32 ((rd_T51 l1 x33_2).f1)) := (blk_cell BK366.out 1).trans rfl; have hcz52_2 : w50.cell? ⟨gb366, 2, none⟩ = some (.int .u32 ((rd_T51 l1 x33_2).f2)) := (blk_cell BK366.out 2).trans rfl; have hcz52_3 : w50.cell? ⟨gb366, 3, none⟩ = some (.slice A365_3 ((rd_T51 l1 x33_2).f3).length c365_3) := (blk_cell BK366.out 3).trans rfl; have hfz52_0 := blk_frozen BK366.out 0; have hfz52_1 := blk_frozen BK366.out 1; have hfz52_2 := blk_frozen BK366.out 2; have hfz52_3 := blk_frozen BK366.out 3) | ((with_reducible refine gate_builtin (b := .append) (xs := #[.tmp 57, .tmp 59]) rfl ?_); at_builtin; refine Kd.R_append_rows (Kd.int .u8) (w0 := w) w.heap.size rfl (.tmp 57) (.tmp 59) 22 5 (.int .u8 0) 1 rfl Tryd.underlying22 info5 rfl (by decide) (by omega) v374 y373 ((rd_T51 l1 x33_2).f3) _ _ _ (fun k_ => some k_ ≠ (.slice Ao51 t370.length co51 : Value).ownBlock) (fun _ => False) rfl rfl ?aO ?aR (fun _ _ h => h) (fun _ h => h.elim) ?aF ?aB ?aS ?aL ?_; (case aR => exact (Kd.C_below HR365_3.out HB.out)); (case aB => exact HB.out); (case aF => exact (fun k_ hk => Kd.fresh' (Kd.R_lt (by (exact HO372.out))) k_ hk)); (case aO => exact (by (exact HO375.out))); (case aS => exact (below_size HB.out)); (case aL => have := LMc41.out; omega); intro v377 w53 ho hb hg hat; rw [← Ny376.out] at ho; have HO378 := Aside0.mk (ho); replace BK340 := Aside0.mk (blk_grown BK340.out hg (Kd.R_ne HO375.out BK340.out (by decide))); replace BK366 := Aside0.mk (blk_grown BK366.out hg (Kd.R_ne HO375.out BK366.out (by decide))); replace HO369 := Aside0.mk (Kd.R_over' (by (exact HO369.out)) (Kd.R_typed (by (exact HO375.out))) (by decide) hg); replace HO372 := Aside0.mk (Kd.R_after (ok := (fun _ => True)) (by (exact HO372.out)) hg hat); replace HB := Aside0.mk (hb); clear HO375; clear ho hb hg hat))
           go_roundg k2
           case measure => have := HJ2.out; have := HK2.out; omega
           case rel => exact ⟨(y376), (wrap64 (x33_2 + 1)), (by (rfl)), H', ⟨by have := HJ2.out; have := HK2.out; omega⟩, ⟨by exact Kd.R_mono HO378.out (fun _ hk => trivial)⟩, ⟨by exact BK340.out⟩, ⟨by exact HB.out⟩⟩
          ·rw [if_neg c41] at H
           exact absurd H (by simp)
         ·rw [if_neg c40] at H
          exact absurd H (by simp)
       ·rw [if_neg c34] at H
        exact absurd H (by simp)
      ·rw [if_neg c33] at H
       exact absurd H (by simp)
     ·rw [if_neg c32] at H
      have c32b0 : decide (x33_2 < (l1.length : Int)) = false := decide_eq_false c32
      clear c32
      simp only [Option.some.injEq, Prod.mk.injEq] at H
      obtain ⟨rfl, rfl⟩ := H
      go_wp2
      go_ret2
      exact ⟨_, by (rfl), by exact HO_7.out, by exact HB.out⟩

end Go.Proofs.YtgnonglkibhnhaaDoor.Print
