import Derived.Test.YtgnonglkibhnhaaDoorZ
import Derived.Test.YtgnonglkibhnhaaDoorM3
import Derived.Test.YtgnonglkibhnhaaDoorM4
namespace Go.Proofs.YtgnonglkibhnhaaDoor.Print
open Go.RowKit Go.Proofs.YtgnonglkibhnhaaDoorW.PrintWords Go.Proofs.YtgnonglkibhnhaaDoorW.PrintLast Go.Proofs.YtgnonglkibhnhaaDoorW.PrintMore
attribute [local go_sem] max2_int min2_int max_two min_two max_three min_three max_four min_four
set_option linter.unusedVariables false
set_option linter.unusedSimpArgs false

/-! ### pcap_Put: function 54 -/
mutual
def pcap_Put.j0 : Nat → List (S51) → Int → Bool → Bool → Int → Int → Option (List Int × Int)
 | 0, _, _, _, _, _, _ => none
 | k + 1, x1, x6, x341000, x341001, x341002, x341003 => (pcap_laid.f k x341000 4 ([x6] : List Int)).bind fun t344 => ((pcap_laid.f k x341000 2 ([2, 4] : List Int)).bind fun t350 => ((pcap_laid.f k x341000 4 ([0, 0, x341002, x341003] : List Int)).bind fun t356 => ((slices_Concat_byte_byte.f ([t344, t350, t356] : List (List Int))).bind fun t362 => (pcap_Put.l0 k t362 x1 (x1.length : Int) 0 x341000 x341001 x341002 x341003))))
def pcap_Put.l0 : Nat → List Int → List (S51) → Int → Int → Bool → Bool → Int → Int → Option (List Int × Int)
 | 0, _, _, _, _, _, _, _, _ => none
 | k + 1, x7, x31, x32, x33, x341000, x341001, x341002, x341003 => if x33 < x32 then (if 0 ≤ x33 then (if x33 < (x31.length : Int) then (if (((rd_T51 x31 x33).f3).length : Int) > 131072 then (some (([] : List Int), 4)) else ((pcap_laid.f k x341000 4 (([(rd_T51 x31 x33).f0, (rd_T51 x31 x33).f1, ((((rd_T51 x31 x33).f3).length : Int)) % 4294967296, (rd_T51 x31 x33).f2] : List Int))).bind fun t370 => (if x7.length + t370.length < 140737488355328 then ((some (x7 ++ t370 : List Int)).bind fun y373 => (if y373.length + ((rd_T51 x31 x33).f3).length < 140737488355328 then (pcap_Put.l0 k (y373 ++ ((rd_T51 x31 x33).f3)) x31 x32 (wrap64 (x33 + 1)) x341000 x341001 x341002 x341003) else (none))) else (none)))) else (none)) else (none)) else (some (x7, 0))
end
def pcap_Put.f (k : Nat) (a0_0 : Bool) (a0_1 : Bool) (a0_2 : Int) (a0_3 : Int) (l1 : List (S51)) : Option (List Int × Int) := if a0_1 = true then (pcap_Put.j0 k l1 2712812621 a0_0 a0_1 a0_2 a0_3) else (pcap_Put.j0 k l1 2712847316 a0_0 a0_1 a0_2 a0_3)
def pcap_Put.T4 : Bool × List (List Nat × List Nat) := (true, [([], []), ([0], [0]), ([], []), ([2], [2]), ([1, 3], [1, 3]), ([], []), ([5], [5]), ([], []), ([6, 7, 4], [6, 7]), ([], []), ([9], [9]), ([], []), ([11], [11]), ([], []), ([13], [13]), ([12, 14], [12, 14]), ([10, 15, 8], [10, 15]), ([4, 8, 16], [4, 8, 16]), ([17, 16], [17]), ([18, 18, 0, 1, 2, 3, 4, 5, 6, 7, 8, 9, 10, 11, 12, 13, 14, 15, 16, 17, 18], [18])])
def pcap_Put.B4 : List Nat := [0, 1, 0, 4, 15, 0, 32, 0, 255, 0, 512, 0, 2048, 0, 8192, 30720, 65535, 131071, 262143, 524287]
theorem pcap_Put.tab4 : rtab .any (opsOf Tryd.f54 4) = pcap_Put.T4 := by kernel_rfl
theorem pcap_Put.bits4 : waitsOk pcap_Put.T4.2 pcap_Put.B4 = true := by kernel_rfl
set_option maxHeartbeats 8000000 in
set_option maxRecDepth 100000 in
theorem pcap_Put.calls (k : Nat) (a0_0 : Bool) (a0_1 : Bool) (a0_2 : Int) (a0_3 : Int) (A1 : Option Addr) (c1 : Nat) (l1 : List (S51)) (r1 : List Int) (r2 : Int) (w : World) (hr1 : Kd.C k51 w A1 l1.length l1) (hc1 : l1.length ≤ c1) (h : pcap_Put.f k a0_0 a0_1 a0_2 a0_3 l1 = some (r1, r2)) :
  Calls Tryd.prog 54 #[.agg #[.bool a0_0, .bool a0_1, .int .u32 a0_2, .int .u32 a0_3], .slice A1 l1.length c1] w fun e w' => ∃ v0_ : Value, e = .returned (.tuple #[v0_, .int .i64 r2]) ∧ Kd.R (Kd.int .u8) 5 w' w.heap.size (fun _ => True) v0_ r1 ∧ Below w.heap.size w w' := by
 have hu46 := Tryd.underlying46
 have hu51 := Tryd.underlying51
 have HR1 := a_ hr1
 have HC1 := a_ hc1
 clear hr1 hc1
 have HB := a_ (Below.refl w.heap.size w)
 have H := h
 clear h
 unfold pcap_Put.f at H
 have HC3 := a_ H
 clear H
 go_enter Tryd.func54, Tryd.ntmps54
 go_upto_if 11 with (first | (refine be_ 2 #[.bool a0_0, .bool a0_1, .int .u32 a0_2, .int .u32 a0_3] 46 ?_; intro gb340 hg w4 hbox hb; have BK340 := a_ hbox; have GE340 := lb_ HB hg; replace HB := bs_ HB hb; clear hb hbox hg; obtain ⟨hcz5_0, hcz5_1, hcz5_2, hcz5_3, hfz5_0, hfz5_1, hfz5_2, hfz5_3⟩ := blk4 BK340.out))
 go_cut [6] (fun v6 wc => ∃ (kq : Nat) (x6_2 : Int), v6 = .int .u32 x6_2 ∧ Aside0 (pcap_Put.j0 kq l1 x6_2 a0_0 a0_1 a0_2 a0_3 = some (r1, r2)) ∧ Aside0 (kq ≤ k) ∧ Aside0 (wc.heap[gb340]? = some (.cells #[.bool a0_0, .bool a0_1, .int .u32 a0_2, .int .u32 a0_3] 46 (0, 0))) ∧ Aside0 (Below w.heap.size w wc))
 case first =>
  have H := HC3.out
  clear HC3
  by_cases c6 : a0_1 = true
  ·subst c6
   rw [if_pos rfl] at H
   have H' := a_ H
   clear H
   go_wp2
   go_meet
   case rel => exact ⟨_, (2712812621), (by rfl), H', ⟨by (omega)⟩, ⟨by exact BK340.out⟩, ⟨by exact HB.out⟩⟩
  ·cases nt_ c6
   rw [if_neg nft_] at H
   have H' := a_ H
   clear H
   go_wp2
   go_meet
   case rel => exact ⟨_, (2712847316), (by rfl), H', ⟨by (omega)⟩, ⟨by exact BK340.out⟩, ⟨by exact HB.out⟩⟩
 case rest =>
  clear HC3
  try clear hcz5_0
  try clear hcz5_1
  try clear hcz5_2
  try clear hcz5_3
  try clear hfz5_0
  try clear hfz5_1
  try clear hfz5_2
  try clear hfz5_3
  obtain ⟨kq, x6_2, rfl, HA, HJ2, BK340, HB⟩ := hcut
  cases kq with
  | zero => exact absurd HA.out (by simp [pcap_Put.j0])
  | succ kj2 =>
   have H := HA.out
   clear HA
   simp only [pcap_Put.j0] at H
   obtain ⟨y341, hy341⟩ := is_ (([x6_2] : List Int))
   rw [← hy341] at H
   have Ny341 := a_ hy341
   clear hy341
   replace H := Option.bind_eq_some_iff.mp H
   obtain ⟨t344, A70, H⟩ := H
   try dsimp only at H
   have A7 := a_ A70
   clear A70
   obtain ⟨y347, hy347⟩ := is_ (([2, 4] : List Int))
   rw [← hy347] at H
   have Ny347 := a_ hy347
   clear hy347
   replace H := Option.bind_eq_some_iff.mp H
   obtain ⟨t350, A80, H⟩ := H
   try dsimp only at H
   have A8 := a_ A80
   clear A80
   obtain ⟨y353, hy353⟩ := is_ (([0, 0, a0_2, a0_3] : List Int))
   rw [← hy353] at H
   have Ny353 := a_ hy353
   clear hy353
   replace H := Option.bind_eq_some_iff.mp H
   obtain ⟨t356, A90, H⟩ := H
   try dsimp only at H
   have A9 := a_ A90
   clear A90
   obtain ⟨y359, hy359⟩ := is_ (([t344, t350, t356] : List (List Int)))
   rw [← hy359] at H
   have Ny359 := a_ hy359
   clear hy359
   replace H := Option.bind_eq_some_iff.mp H
   obtain ⟨t362, A100, H⟩ := H
   try dsimp only at H
   have A10 := a_ A100
   clear A100
   have H' := a_ H
   clear H
   try go_wp2
   replace BK340 := a_ (blk_drew BK340.out)
   replace HB := a_ (below_drew1 HB.out)
   refine start_ (n := 20) (S := fun w' => True) (ds := []) (bo_ 20 0) (by kernel_rfl) rfl rfl trivial (fun hHeld => ?_); refine with_tabW pcap_Put.tab4 pcap_Put.bits4 (fun HT_ HW_ => ?_)
   generalize wc.drew = w11 at BK340 HB hHeld ⊢
   refine pu_ 0 (some 12) HT_ ?_
   refine pu_ 2 (some 14) HT_ ?_
   refine pu_ 5 (some 17) HT_ ?_
   refine pu_ 9 (some 21) HT_ ?_
   refine pu_ 11 (some 23) HT_ ?_
   refine pu_ 13 (some 25) HT_ ?_
   refine inv_at [1, 3, 4, 6, 7, 8, 10, 12, 14, 15, 16, 17, 18, 19] (fun a0_ b a w' => ∃ (v342 : Value) (v345 : Value) (v348 : Value) (v351 : Value) (v354 : Value) (v357 : Value) (v360 : Value) (v363 : Value) (m19_ : Value), a = putSel a0_ b [(1, 13, .bool a0_0), (3, 15, v342), (4, 16, v345), (6, 18, .bool a0_0), (7, 19, v348), (8, 20, v351), (10, 22, .bool a0_0), (12, 24, .int .u32 a0_2), (14, 26, .int .u32 a0_3), (15, 27, v354), (16, 28, v357), (17, 29, v360), (18, 30, v363), (19, 7, m19_)] ∧ (w'.heap[gb340]? = some (.cells #[.bool a0_0, .bool a0_1, .int .u32 a0_2, .int .u32 a0_3] 46 (0, 0))) ∧ (Below w.heap.size w w') ∧ (b 3 = true → Kd.R (Kd.int .u32) 23 w' w.heap.size (fun _ => True) v342 y341) ∧ (b 4 = true → b 17 = false → Kd.R (Kd.int .u8) 5 w' w.heap.size (fun _ => True) v345 t344) ∧ (b 7 = true → Kd.R (Kd.int .u32) 23 w' w.heap.size (fun _ => True) v348 y347) ∧ (b 8 = true → b 17 = false → Kd.R (Kd.int .u8) 5 w' w.heap.size (fun _ => True) v351 t350) ∧ (b 15 = true → Kd.R (Kd.int .u32) 23 w' w.heap.size (fun _ => True) v354 y353) ∧ (b 16 = true → b 17 = false → Kd.R (Kd.int .u8) 5 w' w.heap.size (fun _ => True) v357 t356) ∧ (b 17 = true → Kd.N (Kd.slice 5 (Kd.int .u8)) 22 w' w.heap.size (fun k_ => k_ ≠ gb340) v360 y359) ∧ (b 18 = true → Kd.R (Kd.int .u8) 5 w' w.heap.size (fun _ => True) v363 t362) ∧ (b 19 = true → (m19_ : Value) = v363)) HT_.out HW_.out (by kernel_rfl) (by kernel_rfl) ?_ ?_ ?_
   ·exact ⟨.bool false, .bool false, .bool false, .bool false, .bool false, .bool false, .bool false, .bool false, .bool false, by simp only [putSel, Bool.false_eq_true, if_false], BK340.out, HB.out, fun h_ => absurd h_ (by decide), fun h_ => absurd h_ (by decide), fun h_ => absurd h_ (by decide), fun h_ => absurd h_ (by decide), fun h_ => absurd h_ (by decide), fun h_ => absurd h_ (by decide), fun h_ => absurd h_ (by decide), fun h_ => absurd h_ (by decide), fun h_ => absurd h_ (by decide)⟩
   ·skip
    clear BK340 HB
    refine steps_cons ?_ ?_
    ·rintro b a w' ⟨v342, v345, v348, v351, v354, v357, v360, v363, m19_, ha, Q_BK340, Q_HB, Q_HO343, Q_HO346, Q_HO349, Q_HO352, Q_HO355, Q_HO358, Q_HO361, Q_HO364, Q_X19_⟩ hb_ hon hoff
     refine ⟨_, rfl, fun K hK => ?_⟩
     have e12 : a.tmps[12]? = some (.pointer (some ⟨gb340, 0, none⟩)) := by rw [ha]; exact (putSel_off rfl).trans rfl
     replace ha := a_ ha
     have BK340 := a_ Q_BK340
     have HB := a_ Q_HB
     have hc0_ : w'.cell? ⟨gb340, 0, none⟩ = some (.bool a0_0) := bc0 BK340
     have hc1_ : w'.cell? ⟨gb340, 1, none⟩ = some (.bool a0_1) := bc1 BK340
     have hc2_ : w'.cell? ⟨gb340, 2, none⟩ = some (.int .u32 a0_2) := bc2 BK340
     have hc3_ : w'.cell? ⟨gb340, 3, none⟩ = some (.int .u32 a0_3) := bc3 BK340
     refine value_ (w1 := w') (v := .bool a0_0) (by rfl) rfl ?_ ?_
     ·go_simp
     refine hK.out _ _ ⟨v342, v345, v348, v351, v354, v357, v360, v363, m19_, (by rw [ha.out]; exact putSel_upk 0 hb_ rfl rfl rfl), Q_BK340, Q_HB, Q_HO343, ab_ (hoff 4 (by kernel_rfl)), Q_HO349, ab_ (hoff 8 (by kernel_rfl)), Q_HO355, ab_ (hoff 16 (by kernel_rfl)), ab_ (hoff 17 (by kernel_rfl)), ab_ (hoff 18 (by kernel_rfl)), ab_ (hoff 19 (by kernel_rfl))⟩
    refine steps_cons ?_ ?_
    ·rintro b a w' ⟨v342, v345, v348, v351, v354, v357, v360, v363, m19_, ha, Q_BK340, Q_HB, Q_HO343, Q_HO346, Q_HO349, Q_HO352, Q_HO355, Q_HO358, Q_HO361, Q_HO364, Q_X19_⟩ hb_ hon hoff
     refine ⟨_, rfl, fun K hK => ?_⟩
     have e14 : a.tmps[14]? = some (.int .u32 x6_2) := by rw [ha]; exact (putSel_off rfl).trans rfl
     replace ha := a_ ha
     have BK340 := a_ Q_BK340
     have HB := a_ Q_HB
     refine Kd.R_lit_step (Kd.int .u32) _ 23 ?hg (N := 15) ?hd (xs := ([x6_2] : List Int)) (inner := [.int .u32 x6_2]) (ok := fun _ => True) (okp := fun _ => True) ?hr ?hp (fun _ hk => hk) trivial (Below.refl _ _) (Nat.le_refl _) (by simp) ?_; (case hd => rfl); (case hg => rfl); (case hr => (go_simp; done)); (case hp => exact (Reps.one (show Kd.M (Kd.int .u32) _ _ _ x6_2 [.int .u32 x6_2] from rfl) (Reps.none _ _)))
     intro v342 w12 ho13 hb hg_ hnew_
     clear hg_ hnew_
     rw [← Ny341.out] at ho13
     have n0_ := rl_ ho13 HB
     have n1_ := bb_ BK340 hb
     have n2_ := bs_ HB hb
     have z_HO349 := fun (h0_ : b 7 = true) => (show Kd.R (Kd.int .u32) 23 w12 w.heap.size (fun _ => True) v348 y347 from by (exact Kd.R_mono (Kd.R_elder' (by exact (Q_HO349 h0_)) (Kd.R_base ho13) hb) (fun _ h_ => by (trivial))))
     have z_HO355 := fun (h0_ : b 15 = true) => (show Kd.R (Kd.int .u32) 23 w12 w.heap.size (fun _ => True) v354 y353 from by (exact Kd.R_mono (Kd.R_elder' (by exact (Q_HO355 h0_)) (Kd.R_base ho13) hb) (fun _ h_ => by (trivial))))
     clear BK340
     clear HB
     have HO343 := n0_
     have BK340 := n1_
     have HB := n2_
     clear n0_ n1_ n2_
     clear hb ho13
     refine hK.out _ _ ⟨v342, v345, v348, v351, v354, v357, v360, v363, m19_, (by rw [ha.out]; exact putSel_upk 1 hb_ rfl rfl rfl), BK340.out, HB.out, fun _ => HO343.out, ab_ (hoff 4 (by kernel_rfl)), z_HO349, ab_ (hoff 8 (by kernel_rfl)), z_HO355, ab_ (hoff 16 (by kernel_rfl)), ab_ (hoff 17 (by kernel_rfl)), ab_ (hoff 18 (by kernel_rfl)), ab_ (hoff 19 (by kernel_rfl))⟩
    refine steps_cons ?_ ?_
    ·rintro b a w' ⟨v342, v345, v348, v351, v354, v357, v360, v363, m19_, ha, Q_BK340, Q_HB, Q_HO343, Q_HO346, Q_HO349, Q_HO352, Q_HO355, Q_HO358, Q_HO361, Q_HO364, Q_X19_⟩ hb_ hon hoff
     refine ⟨_, rfl, fun K hK => ?_⟩
     have e13 : a.tmps[13]? = some (.bool a0_0) := by rw [ha]; exact putSel_on (e := (1, 13, .bool a0_0)) 0 rfl rfl (hon 1 (by kernel_rfl)) rfl
     have e15 : a.tmps[15]? = some (v342) := by rw [ha]; exact putSel_on (e := (3, 15, v342)) 1 rfl rfl (hon 3 (by kernel_rfl)) rfl
     replace ha := a_ ha
     have BK340 := a_ Q_BK340
     have HB := a_ Q_HB
     have HO343 := a_ (Q_HO343 (hon 3 (by kernel_rfl)))
     obtain ⟨Ao15, co15, eo15⟩ := Kd.R_slice HO343.out
     subst eo15
     refine goes_ Tryd.func74 (by kernel_rfl) rfl #[.bool a0_0, .int .i64 4, .slice Ao15 y341.length co15] (by rfl) rfl rfl (by (simp only [List.map_toArray, List.map_cons, List.map_nil, Act.eval, Array.getD_eq_getD_getElem?, Option.getD_some, e13, e15]; done)) ?_
     with_reducible refine (pcap_laid.calls kj2 a0_0 4 _ _ y341 t344 _ ?side1 ?side2 A7.out).mono ?_
     (case side1 => exact (Kd.R_reads' HO343.out).2.2)
     (case side2 => exact (Kd.R_reads' HO343.out).2.1)
     rintro e w16 ⟨v345, rfl, ho0, hb⟩
     refine ⟨_, rfl, ?_⟩
     have n0_ := rb_ HO343 hb
     have n1_ := rl_ ho0 HB
     have n2_ := bb_ BK340 hb
     have n3_ := bs_ HB hb
     have z_HO349 := fun (h0_ : b 7 = true) => (show Kd.R (Kd.int .u32) 23 w16 w.heap.size (fun _ => True) v348 y347 from by (exact (Kd.R_below (by exact (Q_HO349 h0_)) hb)))
     have z_HO355 := fun (h0_ : b 15 = true) => (show Kd.R (Kd.int .u32) 23 w16 w.heap.size (fun _ => True) v354 y353 from by (exact (Kd.R_below (by exact (Q_HO355 h0_)) hb)))
     clear HO343
     clear BK340
     clear HB
     have HO343 := n0_
     have HO346 := n1_
     have BK340 := n2_
     have HB := n3_
     clear n0_ n1_ n2_ n3_
     (try clear hb)
     (try clear ho0)
     refine hK.out _ _ ⟨.slice Ao15 y341.length co15, v345, v348, v351, v354, v357, v360, v363, m19_, (by rw [ha.out]; exact putSel_upk 2 hb_ rfl rfl rfl), BK340.out, HB.out, fun _ => HO343.out, fun _ _ => HO346.out, z_HO349, ab_ (hoff 8 (by kernel_rfl)), z_HO355, ab_ (hoff 16 (by kernel_rfl)), ab_ (hoff 17 (by kernel_rfl)), ab_ (hoff 18 (by kernel_rfl)), ab_ (hoff 19 (by kernel_rfl))⟩
    refine steps_cons ?_ ?_
    ·rintro b a w' ⟨v342, v345, v348, v351, v354, v357, v360, v363, m19_, ha, Q_BK340, Q_HB, Q_HO343, Q_HO346, Q_HO349, Q_HO352, Q_HO355, Q_HO358, Q_HO361, Q_HO364, Q_X19_⟩ hb_ hon hoff
     refine ⟨_, rfl, fun K hK => ?_⟩
     have e17 : a.tmps[17]? = some (.pointer (some ⟨gb340, 0, none⟩)) := by rw [ha]; exact (putSel_off rfl).trans rfl
     replace ha := a_ ha
     have BK340 := a_ Q_BK340
     have HB := a_ Q_HB
     have hc0_ : w'.cell? ⟨gb340, 0, none⟩ = some (.bool a0_0) := bc0 BK340
     have hc1_ : w'.cell? ⟨gb340, 1, none⟩ = some (.bool a0_1) := bc1 BK340
     have hc2_ : w'.cell? ⟨gb340, 2, none⟩ = some (.int .u32 a0_2) := bc2 BK340
     have hc3_ : w'.cell? ⟨gb340, 3, none⟩ = some (.int .u32 a0_3) := bc3 BK340
     refine value_ (w1 := w') (v := .bool a0_0) (by rfl) rfl ?_ ?_
     ·go_simp
     refine hK.out _ _ ⟨v342, v345, v348, v351, v354, v357, v360, v363, m19_, (by rw [ha.out]; exact putSel_upk 3 hb_ rfl rfl rfl), Q_BK340, Q_HB, Q_HO343, Q_HO346, Q_HO349, ab_ (hoff 8 (by kernel_rfl)), Q_HO355, ab_ (hoff 16 (by kernel_rfl)), ab_ (hoff 17 (by kernel_rfl)), ab_ (hoff 18 (by kernel_rfl)), ab_ (hoff 19 (by kernel_rfl))⟩
    refine steps_cons ?_ ?_
    ·rintro b a w' ⟨v342, v345, v348, v351, v354, v357, v360, v363, m19_, ha, Q_BK340, Q_HB, Q_HO343, Q_HO346, Q_HO349, Q_HO352, Q_HO355, Q_HO358, Q_HO361, Q_HO364, Q_X19_⟩ hb_ hon hoff
     refine ⟨_, rfl, fun K hK => ?_⟩
     replace ha := a_ ha
     have BK340 := a_ Q_BK340
     have HB := a_ Q_HB
     refine Kd.R_lit_step (Kd.int .u32) _ 23 ?hg (N := 19) ?hd (xs := ([2, 4] : List Int)) (inner := [.int .u32 2, .int .u32 4]) (ok := fun _ => True) (okp := fun _ => True) ?hr ?hp (fun _ hk => hk) trivial (Below.refl _ _) (Nat.le_refl _) (by simp) ?_; (case hd => rfl); (case hg => rfl); (case hr => (go_simp; done)); (case hp => exact (Reps.one (show Kd.M (Kd.int .u32) _ _ _ 2 [.int .u32 2] from rfl) (Reps.one (show Kd.M (Kd.int .u32) _ _ _ 4 [.int .u32 4] from rfl) (Reps.none _ _))))
     intro v348 w12 ho13 hb hg_ hnew_
     clear hg_ hnew_
     rw [← Ny347.out] at ho13
     have n0_ := rl_ ho13 HB
     have n1_ := bb_ BK340 hb
     have n2_ := bs_ HB hb
     have z_HO343 := fun (h0_ : b 3 = true) => (show Kd.R (Kd.int .u32) 23 w12 w.heap.size (fun _ => True) v342 y341 from by (exact Kd.R_mono (Kd.R_elder' (by exact (Q_HO343 h0_)) (Kd.R_base ho13) hb) (fun _ h_ => by (trivial))))
     have z_HO346 := fun (h0_ : b 4 = true) (h1_ : b 17 = false) => (show Kd.R (Kd.int .u8) 5 w12 w.heap.size (fun _ => True) v345 t344 from by (exact (Kd.R_below (by exact (Q_HO346 h0_ h1_)) hb)))
     have z_HO355 := fun (h0_ : b 15 = true) => (show Kd.R (Kd.int .u32) 23 w12 w.heap.size (fun _ => True) v354 y353 from by (exact Kd.R_mono (Kd.R_elder' (by exact (Q_HO355 h0_)) (Kd.R_base ho13) hb) (fun _ h_ => by (trivial))))
     clear BK340
     clear HB
     have HO349 := n0_
     have BK340 := n1_
     have HB := n2_
     clear n0_ n1_ n2_
     clear hb ho13
     refine hK.out _ _ ⟨v342, v345, v348, v351, v354, v357, v360, v363, m19_, (by rw [ha.out]; exact putSel_upk 4 hb_ rfl rfl rfl), BK340.out, HB.out, z_HO343, z_HO346, fun _ => HO349.out, ab_ (hoff 8 (by kernel_rfl)), z_HO355, ab_ (hoff 16 (by kernel_rfl)), ab_ (hoff 17 (by kernel_rfl)), ab_ (hoff 18 (by kernel_rfl)), ab_ (hoff 19 (by kernel_rfl))⟩
    refine steps_cons ?_ ?_
    ·rintro b a w' ⟨v342, v345, v348, v351, v354, v357, v360, v363, m19_, ha, Q_BK340, Q_HB, Q_HO343, Q_HO346, Q_HO349, Q_HO352, Q_HO355, Q_HO358, Q_HO361, Q_HO364, Q_X19_⟩ hb_ hon hoff
     refine ⟨_, rfl, fun K hK => ?_⟩
     have e18 : a.tmps[18]? = some (.bool a0_0) := by rw [ha]; exact putSel_on (e := (6, 18, .bool a0_0)) 3 rfl rfl (hon 6 (by kernel_rfl)) rfl
     have e19 : a.tmps[19]? = some (v348) := by rw [ha]; exact putSel_on (e := (7, 19, v348)) 4 rfl rfl (hon 7 (by kernel_rfl)) rfl
     replace ha := a_ ha
     have BK340 := a_ Q_BK340
     have HB := a_ Q_HB
     have HO343 := a_ (Q_HO343 (hon 3 (by kernel_rfl)))
     have HO346 := a_ (Q_HO346 (hon 4 (by kernel_rfl)) (hoff 17 (by kernel_rfl)))
     have HO349 := a_ (Q_HO349 (hon 7 (by kernel_rfl)))
     obtain ⟨Ao19, co19, eo19⟩ := Kd.R_slice HO349.out
     subst eo19
     refine goes_ Tryd.func74 (by kernel_rfl) rfl #[.bool a0_0, .int .i64 2, .slice Ao19 y347.length co19] (by rfl) rfl rfl (by (simp only [List.map_toArray, List.map_cons, List.map_nil, Act.eval, Array.getD_eq_getD_getElem?, Option.getD_some, e18, e19]; done)) ?_
     with_reducible refine (pcap_laid.calls kj2 a0_0 2 _ _ y347 t350 _ ?side1 ?side2 A8.out).mono ?_
     (case side1 => exact (Kd.R_reads' HO349.out).2.2)
     (case side2 => exact (Kd.R_reads' HO349.out).2.1)
     rintro e w20 ⟨v351, rfl, ho0, hb⟩
     refine ⟨_, rfl, ?_⟩
     have n0_ := rb_ HO343 hb
     have n1_ := rR_ HO346 ho0 hb
     have n2_ := rb_ HO349 hb
     have n3_ := rn_ ho0 HO346 HB
     have n4_ := bb_ BK340 hb
     have n5_ := bs_ HB hb
     have z_HO355 := fun (h0_ : b 15 = true) => (show Kd.R (Kd.int .u32) 23 w20 w.heap.size (fun _ => True) v354 y353 from by (exact (Kd.R_below (by exact (Q_HO355 h0_)) hb)))
     clear HO343
     clear HO346
     clear HO349
     clear BK340
     clear HB
     have HO343 := n0_
     have HO346 := n1_
     have HO349 := n2_
     have HO352 := n3_
     have BK340 := n4_
     have HB := n5_
     clear n0_ n1_ n2_ n3_ n4_ n5_
     (try clear hb)
     (try clear ho0)
     refine hK.out _ _ ⟨v342, v345, .slice Ao19 y347.length co19, v351, v354, v357, v360, v363, m19_, (by rw [ha.out]; exact putSel_upk 5 hb_ rfl rfl rfl), BK340.out, HB.out, fun _ => HO343.out, fun _ _ => (by (exact Kd.R_mono HO346.out (fun _ hk => trivial))), fun _ => HO349.out, fun _ _ => (by (exact Kd.R_mono HO352.out (fun _ hk => trivial))), z_HO355, ab_ (hoff 16 (by kernel_rfl)), ab_ (hoff 17 (by kernel_rfl)), ab_ (hoff 18 (by kernel_rfl)), ab_ (hoff 19 (by kernel_rfl))⟩
    refine steps_cons ?_ ?_
    ·rintro b a w' ⟨v342, v345, v348, v351, v354, v357, v360, v363, m19_, ha, Q_BK340, Q_HB, Q_HO343, Q_HO346, Q_HO349, Q_HO352, Q_HO355, Q_HO358, Q_HO361, Q_HO364, Q_X19_⟩ hb_ hon hoff
     refine ⟨_, rfl, fun K hK => ?_⟩
     have e21 : a.tmps[21]? = some (.pointer (some ⟨gb340, 0, none⟩)) := by rw [ha]; exact (putSel_off rfl).trans rfl
     replace ha := a_ ha
     have BK340 := a_ Q_BK340
     have HB := a_ Q_HB
     have hc0_ : w'.cell? ⟨gb340, 0, none⟩ = some (.bool a0_0) := bc0 BK340
     have hc1_ : w'.cell? ⟨gb340, 1, none⟩ = some (.bool a0_1) := bc1 BK340
     have hc2_ : w'.cell? ⟨gb340, 2, none⟩ = some (.int .u32 a0_2) := bc2 BK340
     have hc3_ : w'.cell? ⟨gb340, 3, none⟩ = some (.int .u32 a0_3) := bc3 BK340
     refine value_ (w1 := w') (v := .bool a0_0) (by rfl) rfl ?_ ?_
     ·go_simp
     refine hK.out _ _ ⟨v342, v345, v348, v351, v354, v357, v360, v363, m19_, (by rw [ha.out]; exact putSel_upk 6 hb_ rfl rfl rfl), Q_BK340, Q_HB, Q_HO343, Q_HO346, Q_HO349, Q_HO352, Q_HO355, ab_ (hoff 16 (by kernel_rfl)), ab_ (hoff 17 (by kernel_rfl)), ab_ (hoff 18 (by kernel_rfl)), ab_ (hoff 19 (by kernel_rfl))⟩
    refine steps_cons ?_ ?_
    ·rintro b a w' ⟨v342, v345, v348, v351, v354, v357, v360, v363, m19_, ha, Q_BK340, Q_HB, Q_HO343, Q_HO346, Q_HO349, Q_HO352, Q_HO355, Q_HO358, Q_HO361, Q_HO364, Q_X19_⟩ hb_ hon hoff
     refine ⟨_, rfl, fun K hK => ?_⟩
     have e23 : a.tmps[23]? = some (.pointer (some ⟨gb340, 2, none⟩)) := by rw [ha]; exact (putSel_off rfl).trans rfl
     replace ha := a_ ha
     have BK340 := a_ Q_BK340
     have HB := a_ Q_HB
     have hc0_ : w'.cell? ⟨gb340, 0, none⟩ = some (.bool a0_0) := bc0 BK340
     have hc1_ : w'.cell? ⟨gb340, 1, none⟩ = some (.bool a0_1) := bc1 BK340
     have hc2_ : w'.cell? ⟨gb340, 2, none⟩ = some (.int .u32 a0_2) := bc2 BK340
     have hc3_ : w'.cell? ⟨gb340, 3, none⟩ = some (.int .u32 a0_3) := bc3 BK340
     refine value_ (w1 := w') (v := .int .u32 a0_2) (by rfl) rfl ?_ ?_
     ·go_simp
     refine hK.out _ _ ⟨v342, v345, v348, v351, v354, v357, v360, v363, m19_, (by rw [ha.out]; exact putSel_upk 7 hb_ rfl rfl rfl), Q_BK340, Q_HB, Q_HO343, Q_HO346, Q_HO349, Q_HO352, ab_ (hoff 15 (by kernel_rfl)), ab_ (hoff 16 (by kernel_rfl)), ab_ (hoff 17 (by kernel_rfl)), ab_ (hoff 18 (by kernel_rfl)), ab_ (hoff 19 (by kernel_rfl))⟩
    refine steps_cons ?_ ?_
    ·rintro b a w' ⟨v342, v345, v348, v351, v354, v357, v360, v363, m19_, ha, Q_BK340, Q_HB, Q_HO343, Q_HO346, Q_HO349, Q_HO352, Q_HO355, Q_HO358, Q_HO361, Q_HO364, Q_X19_⟩ hb_ hon hoff
     refine ⟨_, rfl, fun K hK => ?_⟩
     have e25 : a.tmps[25]? = some (.pointer (some ⟨gb340, 3, none⟩)) := by rw [ha]; exact (putSel_off rfl).trans rfl
     replace ha := a_ ha
     have BK340 := a_ Q_BK340
     have HB := a_ Q_HB
     have hc0_ : w'.cell? ⟨gb340, 0, none⟩ = some (.bool a0_0) := bc0 BK340
     have hc1_ : w'.cell? ⟨gb340, 1, none⟩ = some (.bool a0_1) := bc1 BK340
     have hc2_ : w'.cell? ⟨gb340, 2, none⟩ = some (.int .u32 a0_2) := bc2 BK340
     have hc3_ : w'.cell? ⟨gb340, 3, none⟩ = some (.int .u32 a0_3) := bc3 BK340
     refine value_ (w1 := w') (v := .int .u32 a0_3) (by rfl) rfl ?_ ?_
     ·go_simp
     refine hK.out _ _ ⟨v342, v345, v348, v351, v354, v357, v360, v363, m19_, (by rw [ha.out]; exact putSel_upk 8 hb_ rfl rfl rfl), Q_BK340, Q_HB, Q_HO343, Q_HO346, Q_HO349, Q_HO352, ab_ (hoff 15 (by kernel_rfl)), ab_ (hoff 16 (by kernel_rfl)), ab_ (hoff 17 (by kernel_rfl)), ab_ (hoff 18 (by kernel_rfl)), ab_ (hoff 19 (by kernel_rfl))⟩
    refine steps_cons ?_ ?_
    ·rintro b a w' ⟨v342, v345, v348, v351, v354, v357, v360, v363, m19_, ha, Q_BK340, Q_HB, Q_HO343, Q_HO346, Q_HO349, Q_HO352, Q_HO355, Q_HO358, Q_HO361, Q_HO364, Q_X19_⟩ hb_ hon hoff
     refine ⟨_, rfl, fun K hK => ?_⟩
     have e24 : a.tmps[24]? = some (.int .u32 a0_2) := by rw [ha]; exact putSel_on (e := (12, 24, .int .u32 a0_2)) 7 rfl rfl (hon 12 (by kernel_rfl)) rfl
     have e26 : a.tmps[26]? = some (.int .u32 a0_3) := by rw [ha]; exact putSel_on (e := (14, 26, .int .u32 a0_3)) 8 rfl rfl (hon 14 (by kernel_rfl)) rfl
     replace ha := a_ ha
     have BK340 := a_ Q_BK340
     have HB := a_ Q_HB
     refine Kd.R_lit_step (Kd.int .u32) _ 23 ?hg (N := 27) ?hd (xs := ([0, 0, a0_2, a0_3] : List Int)) (inner := [.int .u32 0, .int .u32 0, .int .u32 a0_2, .int .u32 a0_3]) (ok := fun _ => True) (okp := fun _ => True) ?hr ?hp (fun _ hk => hk) trivial (Below.refl _ _) (Nat.le_refl _) (by simp) ?_; (case hd => rfl); (case hg => rfl); (case hr => (go_simp; done)); (case hp => exact (Reps.one (show Kd.M (Kd.int .u32) _ _ _ 0 [.int .u32 0] from rfl) (Reps.one (show Kd.M (Kd.int .u32) _ _ _ 0 [.int .u32 0] from rfl) (Reps.one (show Kd.M (Kd.int .u32) _ _ _ a0_2 [.int .u32 a0_2] from rfl) (Reps.one (show Kd.M (Kd.int .u32) _ _ _ a0_3 [.int .u32 a0_3] from rfl) (Reps.none _ _))))))
     intro v354 w12 ho13 hb hg_ hnew_
     clear hg_ hnew_
     rw [← Ny353.out] at ho13
     have n0_ := rl_ ho13 HB
     have n1_ := bb_ BK340 hb
     have n2_ := bs_ HB hb
     have z_HO343 := fun (h0_ : b 3 = true) => (show Kd.R (Kd.int .u32) 23 w12 w.heap.size (fun _ => True) v342 y341 from by (exact Kd.R_mono (Kd.R_elder' (by exact (Q_HO343 h0_)) (Kd.R_base ho13) hb) (fun _ h_ => by (trivial))))
     have z_HO346 := fun (h0_ : b 4 = true) (h1_ : b 17 = false) => (show Kd.R (Kd.int .u8) 5 w12 w.heap.size (fun _ => True) v345 t344 from by (exact (Kd.R_below (by exact (Q_HO346 h0_ h1_)) hb)))
     have z_HO349 := fun (h0_ : b 7 = true) => (show Kd.R (Kd.int .u32) 23 w12 w.heap.size (fun _ => True) v348 y347 from by (exact Kd.R_mono (Kd.R_elder' (by exact (Q_HO349 h0_)) (Kd.R_base ho13) hb) (fun _ h_ => by (trivial))))
     have z_HO352 := fun (h0_ : b 8 = true) (h1_ : b 17 = false) => (show Kd.R (Kd.int .u8) 5 w12 w.heap.size (fun _ => True) v351 t350 from by (exact (Kd.R_below (by exact (Q_HO352 h0_ h1_)) hb)))
     clear BK340
     clear HB
     have HO355 := n0_
     have BK340 := n1_
     have HB := n2_
     clear n0_ n1_ n2_
     clear hb ho13
     refine hK.out _ _ ⟨v342, v345, v348, v351, v354, v357, v360, v363, m19_, (by rw [ha.out]; exact putSel_upk 9 hb_ rfl rfl rfl), BK340.out, HB.out, z_HO343, z_HO346, z_HO349, z_HO352, fun _ => HO355.out, ab_ (hoff 16 (by kernel_rfl)), ab_ (hoff 17 (by kernel_rfl)), ab_ (hoff 18 (by kernel_rfl)), ab_ (hoff 19 (by kernel_rfl))⟩
    refine steps_cons ?_ ?_
    ·rintro b a w' ⟨v342, v345, v348, v351, v354, v357, v360, v363, m19_, ha, Q_BK340, Q_HB, Q_HO343, Q_HO346, Q_HO349, Q_HO352, Q_HO355, Q_HO358, Q_HO361, Q_HO364, Q_X19_⟩ hb_ hon hoff
     refine ⟨_, rfl, fun K hK => ?_⟩
     have e22 : a.tmps[22]? = some (.bool a0_0) := by rw [ha]; exact putSel_on (e := (10, 22, .bool a0_0)) 6 rfl rfl (hon 10 (by kernel_rfl)) rfl
     have e27 : a.tmps[27]? = some (v354) := by rw [ha]; exact putSel_on (e := (15, 27, v354)) 9 rfl rfl (hon 15 (by kernel_rfl)) rfl
     replace ha := a_ ha
     have BK340 := a_ Q_BK340
     have HB := a_ Q_HB
     have HO343 := a_ (Q_HO343 (hon 3 (by kernel_rfl)))
     have HO346 := a_ (Q_HO346 (hon 4 (by kernel_rfl)) (hoff 17 (by kernel_rfl)))
     have HO349 := a_ (Q_HO349 (hon 7 (by kernel_rfl)))
     have HO352 := a_ (Q_HO352 (hon 8 (by kernel_rfl)) (hoff 17 (by kernel_rfl)))
     have HO355 := a_ (Q_HO355 (hon 15 (by kernel_rfl)))
     obtain ⟨Ao23, co23, eo23⟩ := Kd.R_slice HO355.out
     subst eo23
     refine goes_ Tryd.func74 (by kernel_rfl) rfl #[.bool a0_0, .int .i64 4, .slice Ao23 y353.length co23] (by rfl) rfl rfl (by (simp only [List.map_toArray, List.map_cons, List.map_nil, Act.eval, Array.getD_eq_getD_getElem?, Option.getD_some, e22, e27]; done)) ?_
     with_reducible refine (pcap_laid.calls kj2 a0_0 4 _ _ y353 t356 _ ?side1 ?side2 A9.out).mono ?_
     (case side1 => exact (Kd.R_reads' HO355.out).2.2)
     (case side2 => exact (Kd.R_reads' HO355.out).2.1)
     rintro e w24 ⟨v357, rfl, ho0, hb⟩
     refine ⟨_, rfl, ?_⟩
     have HO358 := a_ (Kd.R_lower (Kd.R_new' (Kd.R_new' ho0 (Kd.R_lt HO346.out)) (Kd.R_lt HO352.out)) (below_size HB.out))
     replace HO343 := rb_ HO343 hb
     replace HO346 := rR_ HO346 ho0 hb
     replace HO349 := rb_ HO349 hb
     replace HO352 := rR_ HO352 ho0 hb
     replace HO355 := rb_ HO355 hb
     replace BK340 := bb_ BK340 hb
     replace HB := bs_ HB hb
     (try clear hb)
     (try clear ho0)
     refine hK.out _ _ ⟨v342, v345, v348, v351, .slice Ao23 y353.length co23, v357, v360, v363, m19_, (by rw [ha.out]; exact putSel_upk 10 hb_ rfl rfl rfl), BK340.out, HB.out, fun _ => HO343.out, fun _ _ => (by (exact Kd.R_mono HO346.out (fun _ hk => trivial))), fun _ => HO349.out, fun _ _ => (by (exact Kd.R_mono HO352.out (fun _ hk => trivial))), fun _ => HO355.out, fun _ _ => (by (exact Kd.R_mono HO358.out (fun _ hk => trivial))), ab_ (hoff 17 (by kernel_rfl)), ab_ (hoff 18 (by kernel_rfl)), ab_ (hoff 19 (by kernel_rfl))⟩
    refine steps_cons ?_ ?_
    ·rintro b a w' ⟨v342, v345, v348, v351, v354, v357, v360, v363, m19_, ha, Q_BK340, Q_HB, Q_HO343, Q_HO346, Q_HO349, Q_HO352, Q_HO355, Q_HO358, Q_HO361, Q_HO364, Q_X19_⟩ hb_ hon hoff
     refine ⟨_, rfl, fun K hK => ?_⟩
     have e16 : a.tmps[16]? = some (v345) := by rw [ha]; exact putSel_on (e := (4, 16, v345)) 2 rfl rfl (hon 4 (by kernel_rfl)) rfl
     have e20 : a.tmps[20]? = some (v351) := by rw [ha]; exact putSel_on (e := (8, 20, v351)) 5 rfl rfl (hon 8 (by kernel_rfl)) rfl
     have e28 : a.tmps[28]? = some (v357) := by rw [ha]; exact putSel_on (e := (16, 28, v357)) 10 rfl rfl (hon 16 (by kernel_rfl)) rfl
     replace ha := a_ ha
     have BK340 := a_ Q_BK340
     have HB := a_ Q_HB
     have HO343 := a_ (Q_HO343 (hon 3 (by kernel_rfl)))
     have HO346 := a_ (Q_HO346 (hon 4 (by kernel_rfl)) hb_)
     have HO349 := a_ (Q_HO349 (hon 7 (by kernel_rfl)))
     have HO352 := a_ (Q_HO352 (hon 8 (by kernel_rfl)) hb_)
     have HO355 := a_ (Q_HO355 (hon 15 (by kernel_rfl)))
     have HO358 := a_ (Q_HO358 (hon 16 (by kernel_rfl)) hb_)
     obtain ⟨Ao25, co25, eo25⟩ := Kd.R_slice HO346.out
     subst eo25
     obtain ⟨Ao26, co26, eo26⟩ := Kd.R_slice HO352.out
     subst eo26
     obtain ⟨Ao27, co27, eo27⟩ := Kd.R_slice HO358.out
     subst eo27
     refine Kd.N_lit_step (Kd.slice 5 (Kd.int .u8)) _ 22 ?hg (N' := 29) ?hd (xs := ([t344, t350, t356] : List (List Int))) (inner := [.slice Ao25 t344.length co25, .slice Ao26 t350.length co26, .slice Ao27 t356.length co27]) (ok := (fun k_ => some k_ ≠ (v342 : Value).ownBlock ∧ some k_ ≠ (v348 : Value).ownBlock ∧ some k_ ≠ (v354 : Value).ownBlock ∧ k_ ≠ gb340)) (okp := (fun k_ => some k_ ≠ (v342 : Value).ownBlock ∧ some k_ ≠ (v348 : Value).ownBlock ∧ some k_ ≠ (v354 : Value).ownBlock ∧ k_ ≠ gb340)) ?hr ?hp (fun _ hk => hk) ((show ∀ k_, w'.heap.size ≤ k_ → (fun k_ => some k_ ≠ (v342 : Value).ownBlock ∧ some k_ ≠ (v348 : Value).ownBlock ∧ some k_ ≠ (v354 : Value).ownBlock ∧ k_ ≠ gb340) k_ from fun k_ hk => ⟨Kd.fresh' (Kd.R_lt HO343.out) k_ hk, Kd.fresh' (Kd.R_lt HO349.out) k_ hk, Kd.fresh' (Kd.R_lt HO355.out) k_ hk, Kd.freshB BK340.out k_ hk⟩) _ (Nat.le_refl _)) (Below.refl _ _) (Nat.le_refl _) (by simp) ?_; (case hd => rfl); (case hg => rfl); (case hr => (go_simp; done)); (case hp => exact (Reps.one (show Kd.FK (Kd.slice 5 (Kd.int .u8)) _ _ t344 [.slice Ao25 t344.length co25] from (Kd.FK_slice_mk (Kd.R_reads' (Kd.R_mono (ok' := (fun k_ => some k_ ≠ (v342 : Value).ownBlock ∧ some k_ ≠ (v348 : Value).ownBlock ∧ some k_ ≠ (v354 : Value).ownBlock ∧ k_ ≠ gb340)) (Kd.R_types (Kd.R_apart' (Kd.R_apart' (Kd.R_apart' (HO346.out) (Kd.R_typed HO343.out) (by decide)) (Kd.R_typed HO349.out) (by decide)) (Kd.R_typed HO355.out) (by decide)) BK340.out (by decide)) (fun k_ hk => ⟨hk.1.1.1.2, ⟨hk.1.1.2, ⟨hk.1.2, hk.2⟩⟩⟩))).2.1 (Kd.R_F (Kd.R_mono (ok' := (fun k_ => some k_ ≠ (v342 : Value).ownBlock ∧ some k_ ≠ (v348 : Value).ownBlock ∧ some k_ ≠ (v354 : Value).ownBlock ∧ k_ ≠ gb340)) (Kd.R_types (Kd.R_apart' (Kd.R_apart' (Kd.R_apart' (HO346.out) (Kd.R_typed HO343.out) (by decide)) (Kd.R_typed HO349.out) (by decide)) (Kd.R_typed HO355.out) (by decide)) BK340.out (by decide)) (fun k_ hk => ⟨hk.1.1.1.2, ⟨hk.1.1.2, ⟨hk.1.2, hk.2⟩⟩⟩))))) (Reps.one (show Kd.FK (Kd.slice 5 (Kd.int .u8)) _ _ t350 [.slice Ao26 t350.length co26] from (Kd.FK_slice_mk (Kd.R_reads' (Kd.R_mono (ok' := (fun k_ => some k_ ≠ (v342 : Value).ownBlock ∧ some k_ ≠ (v348 : Value).ownBlock ∧ some k_ ≠ (v354 : Value).ownBlock ∧ k_ ≠ gb340)) (Kd.R_types (Kd.R_apart' (Kd.R_apart' (Kd.R_apart' (HO352.out) (Kd.R_typed HO343.out) (by decide)) (Kd.R_typed HO349.out) (by decide)) (Kd.R_typed HO355.out) (by decide)) BK340.out (by decide)) (fun k_ hk => ⟨hk.1.1.1.2, ⟨hk.1.1.2, ⟨hk.1.2, hk.2⟩⟩⟩))).2.1 (Kd.R_F (Kd.R_mono (ok' := (fun k_ => some k_ ≠ (v342 : Value).ownBlock ∧ some k_ ≠ (v348 : Value).ownBlock ∧ some k_ ≠ (v354 : Value).ownBlock ∧ k_ ≠ gb340)) (Kd.R_types (Kd.R_apart' (Kd.R_apart' (Kd.R_apart' (HO352.out) (Kd.R_typed HO343.out) (by decide)) (Kd.R_typed HO349.out) (by decide)) (Kd.R_typed HO355.out) (by decide)) BK340.out (by decide)) (fun k_ hk => ⟨hk.1.1.1.2, ⟨hk.1.1.2, ⟨hk.1.2, hk.2⟩⟩⟩))))) (Reps.one (show Kd.FK (Kd.slice 5 (Kd.int .u8)) _ _ t356 [.slice Ao27 t356.length co27] from (Kd.FK_slice_mk (Kd.R_reads' (Kd.R_mono (ok' := (fun k_ => some k_ ≠ (v342 : Value).ownBlock ∧ some k_ ≠ (v348 : Value).ownBlock ∧ some k_ ≠ (v354 : Value).ownBlock ∧ k_ ≠ gb340)) (Kd.R_types (Kd.R_apart' (Kd.R_apart' (Kd.R_apart' (HO358.out) (Kd.R_typed HO343.out) (by decide)) (Kd.R_typed HO349.out) (by decide)) (Kd.R_typed HO355.out) (by decide)) BK340.out (by decide)) (fun k_ hk => ⟨hk.1.1.1.2, ⟨hk.1.1.2, ⟨hk.1.2, hk.2⟩⟩⟩))).2.1 (Kd.R_F (Kd.R_mono (ok' := (fun k_ => some k_ ≠ (v342 : Value).ownBlock ∧ some k_ ≠ (v348 : Value).ownBlock ∧ some k_ ≠ (v354 : Value).ownBlock ∧ k_ ≠ gb340)) (Kd.R_types (Kd.R_apart' (Kd.R_apart' (Kd.R_apart' (HO358.out) (Kd.R_typed HO343.out) (by decide)) (Kd.R_typed HO349.out) (by decide)) (Kd.R_typed HO355.out) (by decide)) BK340.out (by decide)) (fun k_ hk => ⟨hk.1.1.1.2, ⟨hk.1.1.2, ⟨hk.1.2, hk.2⟩⟩⟩))))) (Reps.none _ _)))))
     intro v360 w28 ho29 hb hg_ hnew_
     clear hg_ hnew_
     rw [← Ny359.out] at ho29
     have HO361 := a_ (Kd.N_lower ho29 (below_size HB.out))
     replace HO343 := rb_ HO343 hb
     replace HO349 := rb_ HO349 hb
     replace HO355 := rb_ HO355 hb
     replace BK340 := bb_ BK340 hb
     replace HB := bs_ HB hb
     clear HO346
     clear HO352
     clear HO358
     clear hb ho29
     refine hK.out _ _ ⟨v342, .slice Ao25 t344.length co25, v348, .slice Ao26 t350.length co26, v354, .slice Ao27 t356.length co27, v360, v363, m19_, (by rw [ha.out]; exact putSel_upk 11 hb_ rfl rfl rfl), BK340.out, HB.out, fun _ => HO343.out, fun _ h1_ => absurd ((up_self b 17).symm.trans h1_) (by decide), fun _ => HO349.out, fun _ h1_ => absurd ((up_self b 17).symm.trans h1_) (by decide), fun _ => HO355.out, fun _ h1_ => absurd ((up_self b 17).symm.trans h1_) (by decide), fun _ => (by (exact Kd.N_mono HO361.out (fun _ hk => hk.2.2.2))), ab_ (hoff 18 (by kernel_rfl)), ab_ (hoff 19 (by kernel_rfl))⟩
    refine steps_cons ?_ ?_
    ·rintro b a w' ⟨v342, v345, v348, v351, v354, v357, v360, v363, m19_, ha, Q_BK340, Q_HB, Q_HO343, Q_HO346, Q_HO349, Q_HO352, Q_HO355, Q_HO358, Q_HO361, Q_HO364, Q_X19_⟩ hb_ hon hoff
     refine ⟨_, rfl, fun K hK => ?_⟩
     have e29 : a.tmps[29]? = some (v360) := by rw [ha]; exact putSel_on (e := (17, 29, v360)) 11 rfl rfl (hon 17 (by kernel_rfl)) rfl
     replace ha := a_ ha
     have BK340 := a_ Q_BK340
     have HB := a_ Q_HB
     have HO343 := a_ (Q_HO343 (hon 3 (by kernel_rfl)))
     have HO349 := a_ (Q_HO349 (hon 7 (by kernel_rfl)))
     have HO355 := a_ (Q_HO355 (hon 15 (by kernel_rfl)))
     have HO361 := a_ (Q_HO361 (hon 17 (by kernel_rfl)))
     obtain ⟨Ao30, co30, eo30⟩ := Kd.N_slice HO361.out
     subst eo30
     refine goes_ Tryd.func73 (by kernel_rfl) rfl #[.slice Ao30 y359.length co30] (by rfl) rfl rfl (by (simp only [List.map_toArray, List.map_cons, List.map_nil, Act.eval, Array.getD_eq_getD_getElem?, Option.getD_some, e29]; done)) ?_
     with_reducible refine (slices_Concat_byte_byte.calls _ _ y359 t362 _ ?side1 ?side2 A10.out).mono ?_
     (case side1 => exact (Kd.N_reads' HO361.out).2.2)
     (case side2 => exact (Kd.N_reads' HO361.out).2.1)
     rintro e w31 ⟨v363, rfl, ho0, hb⟩
     refine ⟨_, rfl, ?_⟩
     have HO364 := rl_ ho0 HB
     replace HO343 := rb_ HO343 hb
     replace HO349 := rb_ HO349 hb
     replace HO355 := rb_ HO355 hb
     replace HO361 := rN_ HO361 ho0 hb
     replace BK340 := bb_ BK340 hb
     replace HB := bs_ HB hb
     (try clear hb)
     (try clear ho0)
     refine hK.out _ _ ⟨v342, v345, v348, v351, v354, v357, .slice Ao30 y359.length co30, v363, m19_, (by rw [ha.out]; exact putSel_upk 12 hb_ rfl rfl rfl), BK340.out, HB.out, fun _ => HO343.out, fun _ h1_ => absurd ((hon 17 (by kernel_rfl)).symm.trans h1_) (by decide), fun _ => HO349.out, fun _ h1_ => absurd ((hon 17 (by kernel_rfl)).symm.trans h1_) (by decide), fun _ => HO355.out, fun _ h1_ => absurd ((hon 17 (by kernel_rfl)).symm.trans h1_) (by decide), fun _ => (by (exact Kd.N_mono HO361.out (fun _ hk => hk.1))), fun _ => HO364.out, ab_ (hoff 19 (by kernel_rfl))⟩
    refine steps_cons ?_ ?_
    ·rintro b a w' ⟨v342, v345, v348, v351, v354, v357, v360, v363, m19_, ha, Q_BK340, Q_HB, Q_HO343, Q_HO346, Q_HO349, Q_HO352, Q_HO355, Q_HO358, Q_HO361, Q_HO364, Q_X19_⟩ hb_ hon hoff
     refine ⟨_, rfl, fun K hK => ?_⟩
     have e30 : a.tmps[30]? = some (v363) := by rw [ha]; exact putSel_on (e := (18, 30, v363)) 12 rfl rfl (hon 18 (by kernel_rfl)) rfl
     replace ha := a_ ha
     have BK340 := a_ Q_BK340
     have HB := a_ Q_HB
     have HO343 := a_ (Q_HO343 (hon 3 (by kernel_rfl)))
     have HO349 := a_ (Q_HO349 (hon 7 (by kernel_rfl)))
     have HO355 := a_ (Q_HO355 (hon 15 (by kernel_rfl)))
     have HO361 := a_ (Q_HO361 (hon 17 (by kernel_rfl)))
     have HO364 := a_ (Q_HO364 (hon 18 (by kernel_rfl)))
     refine value_ (w1 := w') (v := v363) (by rfl) rfl ?_ ?_
     ·go_simp
     refine hK.out _ _ ⟨v342, v345, v348, v351, v354, v357, v360, v363, (v363), (by rw [ha.out]; exact putSel_upk 13 hb_ rfl rfl rfl), Q_BK340, Q_HB, Q_HO343, fun _ h1_ => absurd ((hon 17 (by kernel_rfl)).symm.trans h1_) (by decide), Q_HO349, fun _ h1_ => absurd ((hon 17 (by kernel_rfl)).symm.trans h1_) (by decide), Q_HO355, fun _ h1_ => absurd ((hon 17 (by kernel_rfl)).symm.trans h1_) (by decide), Q_HO361, Q_HO364, fun _ => rfl⟩
    exact steps_nil
   rintro b a w31 hall ⟨v342, v345, v348, v351, v354, v357, v360, v363, m19_, ha, Q_BK340, Q_HB, Q_HO343, Q_HO346, Q_HO349, Q_HO352, Q_HO355, Q_HO358, Q_HO361, Q_HO364, Q_X19_⟩
   clear BK340 HB
   have hb1_ := hall 1 (by kernel_rfl)
   have hb3_ := hall 3 (by kernel_rfl)
   have hb4_ := hall 4 (by kernel_rfl)
   have hb6_ := hall 6 (by kernel_rfl)
   have hb7_ := hall 7 (by kernel_rfl)
   have hb8_ := hall 8 (by kernel_rfl)
   have hb10_ := hall 10 (by kernel_rfl)
   have hb12_ := hall 12 (by kernel_rfl)
   have hb14_ := hall 14 (by kernel_rfl)
   have hb15_ := hall 15 (by kernel_rfl)
   have hb16_ := hall 16 (by kernel_rfl)
   have hb17_ := hall 17 (by kernel_rfl)
   have hb18_ := hall 18 (by kernel_rfl)
   have hb19_ := hall 19 (by kernel_rfl)
   subst ha
   obtain rfl := Q_X19_ hb19_
   simp only [putSel, hb1_, hb3_, hb4_, hb6_, hb7_, hb8_, hb10_, hb12_, hb14_, hb15_, hb16_, hb17_, hb18_, hb19_, if_true, Act.put, List.setIfInBounds_toArray, List.set_cons_zero, List.set_cons_succ]
   have BK340 := a_ Q_BK340
   clear Q_BK340
   have HB := a_ Q_HB
   clear Q_HB
   have HO343 := a_ (Q_HO343 hb3_)
   clear Q_HO343
   clear Q_HO346
   have HO349 := a_ (Q_HO349 hb7_)
   clear Q_HO349
   clear Q_HO352
   have HO355 := a_ (Q_HO355 hb15_)
   clear Q_HO355
   clear Q_HO358
   have HO361 := a_ (Q_HO361 hb17_)
   clear Q_HO361
   have HO364 := a_ (Q_HO364 hb18_)
   clear Q_HO364
   clear hall hb1_ hb3_ hb4_ hb6_ hb7_ hb8_ hb10_ hb12_ hb14_ hb15_ hb16_ hb17_ hb18_ hb19_
   try go_wp2
   go_loopg [7, 33] kj2 (fun kq v7 v33 w' => ∃ (x7_2 : List Int) (x33_2 : Int), v33 = .int .i64 x33_2 ∧ Aside0 (pcap_Put.l0 kq x7_2 l1 (l1.length : Int) x33_2 a0_0 a0_1 a0_2 a0_3 = some (r1, r2)) ∧ Aside0 (kq ≤ kj2) ∧ Aside0 (Kd.R (Kd.int .u8) 5 w' w.heap.size (fun _ => True) v7 x7_2) ∧ Aside0 (w'.heap[gb340]? = some (.cells #[.bool a0_0, .bool a0_1, .int .u32 a0_2, .int .u32 a0_3] 46 (0, 0))) ∧ Aside0 (Below w.heap.size w w'))
   case atStart => exact ⟨(t362), (0), (by rfl), H', ⟨Nat.le_refl _⟩, ⟨by exact HO364.out⟩, ⟨by exact BK340.out⟩, ⟨by exact HB.out⟩⟩
   case round =>
    clear H'
    obtain ⟨x7_2, x33_2, rfl, HA, HK2, HO_7, BK340, HB⟩ := hrel
    cases gk with
    | zero => exact absurd HA.out (by simp [pcap_Put.l0])
    | succ k2 =>
     have H := HA.out
     clear HA
     simp only [pcap_Put.l0] at H
     by_cases c32 : x33_2 < (l1.length : Int)
     ·rw [if_pos c32] at H
      have c32b0 := decide_eq_true c32
      clear c32
      have c33b0 := ifd_ H
      replace H := ift_ H
      have c34b0 := ifd_ H
      replace H := ift_ H
      by_cases c35 : (((rd_T51 l1 x33_2).f3).length : Int) > 131072
      ·rw [if_pos c35] at H
       have c35b0 := decide_eq_true c35
       have c35b1 : decide (131072 < ((rd_T51 l1 x33_2).f3).length) = true := decide_eq_true (by omega)
       clear c35
       obtain ⟨rfl, rfl⟩ := s2_ H
       have p365 : 0 ≤ (x33_2 : Int) := da_
       have q365 : x33_2 < (l1.length : Int) := da_
       obtain ⟨ad365, A365_3, c365_3, e365, hx365_0, hx365_1, hx365_2, hx365_3, hl365_3, hi365_3⟩ := at_T51 HR1.out x33_2 p365 q365
       cases e365
       replace hx365_0 := cb_ HB hx365_0
       replace hx365_1 := cb_ HB hx365_1
       replace hx365_2 := cb_ HB hx365_2
       replace hx365_3 := cb_ HB hx365_3
       have HR365_3 := a_ hi365_3
       have HC365_3 := a_ hl365_3
       clear hi365_3 hl365_3
       replace p365 := eq_true p365
       replace q365 := eq_true q365
       go_wp2_with (first | (refine be_ 9 #[.int .u32 0, .int .u32 0, .int .u32 0, .slice none 0 0] 51 ?_; intro gb366 hg w36 hbox hb; have BK366 := a_ hbox; have GE366 := lb_ HB hg; obtain ⟨NB340_366, NB366_340⟩ := nn_ BK340 hg; replace HO_7 := rb_ HO_7 hb; replace BK340 := bb_ BK340 hb; replace HB := bs_ HB hb; clear hb hbox hg; have hnb37 := NB366_340.out; have hnc37 := NB340_366.out; obtain ⟨hcz38_0, hcz38_1, hcz38_2, hcz38_3, hfz38_0, hfz38_1, hfz38_2, hfz38_3⟩ := blk4 BK366.out))
       go_ret2
       exact ⟨_, by (rfl), by (exact Kd.R_nil _ _ _ _ _), by repeat (with_reducible first | exact HB.out | refine below_set ?_ GE366.out)⟩
      ·rw [if_neg c35] at H
       have c35b0 := decide_eq_false c35
       have c35b1 : decide (131072 < ((rd_T51 l1 x33_2).f3).length) = false := decide_eq_false (by omega)
       clear c35
       obtain ⟨y367, hy367⟩ := is_ ((([(rd_T51 l1 x33_2).f0, (rd_T51 l1 x33_2).f1, ((((rd_T51 l1 x33_2).f3).length : Int)) % 4294967296, (rd_T51 l1 x33_2).f2] : List Int)))
       rw [← hy367] at H
       have Ny367 := a_ hy367
       clear hy367
       replace H := Option.bind_eq_some_iff.mp H
       obtain ⟨t370, A390, H⟩ := H
       try dsimp only at H
       have A39 := a_ A390
       clear A390
       have c40 := ifc_ H
       replace H := ift_ H
       have LMc40 := a_ c40
       clear c40
       obtain ⟨y373, hy373⟩ := is_ ((x7_2 ++ t370))
       rw [Option.bind_some, ← hy373] at H
       have Ny373 := a_ hy373
       clear hy373
       have c41 := ifc_ H
       replace H := ift_ H
       have LMc41 := a_ c41
       clear c41
       obtain ⟨y376, hy376⟩ := is_ ((y373 ++ ((rd_T51 l1 x33_2).f3)))
       rw [← hy376] at H
       have Ny376 := a_ hy376
       clear hy376
       have H' := a_ H
       clear H
       have p365 : 0 ≤ (x33_2 : Int) := da_
       have q365 : x33_2 < (l1.length : Int) := da_
       obtain ⟨ad365, A365_3, c365_3, e365, hx365_0, hx365_1, hx365_2, hx365_3, hl365_3, hi365_3⟩ := at_T51 HR1.out x33_2 p365 q365
       cases e365
       replace hx365_0 := cb_ HB hx365_0
       replace hx365_1 := cb_ HB hx365_1
       replace hx365_2 := cb_ HB hx365_2
       replace hx365_3 := cb_ HB hx365_3
       have HR365_3 := a_ hi365_3
       have HC365_3 := a_ hl365_3
       clear hi365_3 hl365_3
       replace p365 := eq_true p365
       replace q365 := eq_true q365
       go_wp2_with (first | (refine be_ 9 #[.int .u32 0, .int .u32 0, .int .u32 0, .slice none 0 0] 51 ?_; intro gb366 hg w42 hbox hb; have BK366 := a_ hbox; have GE366 := lb_ HB hg; obtain ⟨NB340_366, NB366_340⟩ := nn_ BK340 hg; replace HO_7 := rb_ HO_7 hb; replace BK340 := bb_ BK340 hb; replace HB := bs_ HB hb; clear hb hbox hg; have hnb43 := NB366_340.out; have hnc43 := NB340_366.out; obtain ⟨hcz44_0, hcz44_1, hcz44_2, hcz44_3, hfz44_0, hfz44_1, hfz44_2, hfz44_3⟩ := blk4 BK366.out; obtain ⟨hcz45_0, hcz45_1, hcz45_2, hcz45_3, hfz45_0, hfz45_1, hfz45_2, hfz45_3⟩ := blk4 BK340.out) | ((with_reducible refine gate_dst (N := 54) rfl ?_); refine Kd.R_lit (Kd.int .u32) _ 23 ?hg (N := 54) ?hd (xs := ([(rd_T51 l1 x33_2).f0, (rd_T51 l1 x33_2).f1, ((((rd_T51 l1 x33_2).f3).length : Int)) % 4294967296, (rd_T51 l1 x33_2).f2] : List Int)) (inner := [.int .u32 ((rd_T51 l1 x33_2).f0), .int .u32 ((rd_T51 l1 x33_2).f1), .int .u32 (((((rd_T51 l1 x33_2).f3).length : Int)) % 4294967296), .int .u32 ((rd_T51 l1 x33_2).f2)]) (ok := fun _ => True) (okp := fun _ => True) ?hr ?hp (fun _ hk => hk) trivial (Below.refl _ _) (Nat.le_refl _) (by simp) ?_; (case hd => rfl); (case hg => rfl); (case hr => (go_simp; done)); (case hp => exact (Reps.one (show Kd.M (Kd.int .u32) _ _ _ ((rd_T51 l1 x33_2).f0) [.int .u32 ((rd_T51 l1 x33_2).f0)] from rfl) (Reps.one (show Kd.M (Kd.int .u32) _ _ _ ((rd_T51 l1 x33_2).f1) [.int .u32 ((rd_T51 l1 x33_2).f1)] from rfl) (Reps.one (show Kd.M (Kd.int .u32) _ _ _ (((((rd_T51 l1 x33_2).f3).length : Int)) % 4294967296) [.int .u32 (((((rd_T51 l1 x33_2).f3).length : Int)) % 4294967296)] from rfl) (Reps.one (show Kd.M (Kd.int .u32) _ _ _ ((rd_T51 l1 x33_2).f2) [.int .u32 ((rd_T51 l1 x33_2).f2)] from rfl) (Reps.none _ _)))))); intro v368 w46 ho47 hb hg_ hnew_; clear hg_ hnew_; (rw [← Ny367.out] at ho47); have HO369 := a_ (Kd.R_lower ho47 (below_size (by repeat (with_reducible first | exact HB.out | refine below_set ?_ GE366.out)))); replace HO_7 := a_ (Kd.R_below (by exact (Kd.R_mono (Kd.R_far (p := ⟨gb366, 3, none⟩) (Kd.R_far (p := ⟨gb366, 2, none⟩) (Kd.R_far (p := ⟨gb366, 1, none⟩) (Kd.R_far (p := ⟨gb366, 0, none⟩) (Kd.R_types HO_7.out BK366.out (by decide)) (fun _ hk => hk.2) (.int .u32 ((rd_T51 l1 x33_2).f0))) (fun _ hk => hk.2) (.int .u32 ((rd_T51 l1 x33_2).f1))) (fun _ hk => hk.2) (.int .u32 ((rd_T51 l1 x33_2).f2))) (fun _ hk => hk.2) (.slice A365_3 ((rd_T51 l1 x33_2).f3).length c365_3)) (fun _ h_ => h_.1))) hb); replace BK340 := a_ (blk_below (g := gb340) (o := .cells #[.bool a0_0, .bool a0_1, .int .u32 a0_2, .int .u32 a0_3] 46 (0, 0)) (by refine blk_far ?_ NB340_366.out _; refine blk_far ?_ NB340_366.out _; refine blk_far ?_ NB340_366.out _; refine blk_far ?_ NB340_366.out _; exact BK340.out) hb); replace BK366 := a_ (blk_below (g := gb366) (o := .cells #[.int .u32 ((rd_T51 l1 x33_2).f0), .int .u32 ((rd_T51 l1 x33_2).f1), .int .u32 ((rd_T51 l1 x33_2).f2), .slice A365_3 ((rd_T51 l1 x33_2).f3).length c365_3] 51 (0, 0)) (by refine blk_put (cs := #[.int .u32 ((rd_T51 l1 x33_2).f0), .int .u32 ((rd_T51 l1 x33_2).f1), .int .u32 ((rd_T51 l1 x33_2).f2), .slice none 0 0]) ?_ 3 _ rfl; refine blk_put (cs := #[.int .u32 ((rd_T51 l1 x33_2).f0), .int .u32 ((rd_T51 l1 x33_2).f1), .int .u32 0, .slice none 0 0]) ?_ 2 _ rfl; refine blk_put (cs := #[.int .u32 ((rd_T51 l1 x33_2).f0), .int .u32 0, .int .u32 0, .slice none 0 0]) ?_ 1 _ rfl; refine blk_put (cs := #[.int .u32 0, .int .u32 0, .int .u32 0, .slice none 0 0]) ?_ 0 _ rfl; exact BK366.out) hb); replace HB := a_ (below_step (by repeat (with_reducible first | exact HB.out | refine below_set ?_ GE366.out)) hb); clear hb ho47; obtain ⟨Ao48, co48, eo48⟩ := Kd.R_slice HO369.out; subst eo48) | (refine gl_ (some 55) Tryd.func74 #[.bool a0_0, .int .i64 4, .slice Ao48 y367.length co48] ?_; (with_reducible refine (pcap_laid.calls k2 a0_0 4 _ _ y367 t370 _ ((Kd.R_reads' HO369.out).2.2) ((Kd.R_reads' HO369.out).2.1) A39.out).mono ?_); rintro e w49 ⟨v371, rfl, ho0, hb⟩; refine ⟨_, rfl, ?_⟩; have HO372 := rn_ ho0 HO_7 HB; replace HO_7 := rR_ HO_7 ho0 hb; replace HO369 := rb_ HO369 hb; replace BK340 := bb_ BK340 hb; replace BK366 := bb_ BK366 hb; replace HB := bs_ HB hb; (try clear hb); (try clear ho0); obtain ⟨Ao51, co51, eo51⟩ := Kd.R_slice HO372.out; subst eo51) | ((with_reducible refine gate_builtin (b := .append) (xs := #[.tmp 41, .tmp 55]) rfl ?_); at_builtin; refine Kd.R_append_rows (Kd.int .u8) (w0 := w) w.heap.size rfl (.tmp 41) (.tmp 55) 22 5 (.int .u8 0) 1 rfl Tryd.underlying22 info5 rfl (by decide) (by omega) u7 x7_2 t370 _ _ _ (fun k_ => some k_ ≠ (.slice Ao51 t370.length co51 : Value).ownBlock) (fun _ => False) rfl rfl ?aO ?aR (fun _ _ h => h) (fun _ h => h.elim) ?aF ?aB ?aS ?aL ?_; (case aR => exact (Kd.R_reads' HO372.out).2.2); (case aB => exact HB.out); (case aF => exact (fun k_ hk => Kd.fresh' (Kd.R_lt HO372.out) k_ hk)); (case aO => exact (by exact Kd.R_mono HO_7.out (fun _ hk => hk.2))); (case aS => exact (below_size HB.out)); (case aL => have := LMc40.out; omega); intro v374 w50 ho hb hg hat; rw [← Ny373.out] at ho; have HO375 := a_ ho; replace BK340 := a_ (blk_grown BK340.out hg (Kd.R_ne HO_7.out BK340.out (by decide))); replace BK366 := a_ (blk_grown BK366.out hg (Kd.R_ne HO_7.out BK366.out (by decide))); replace HO369 := a_ (Kd.R_over' HO369.out (Kd.R_typed HO_7.out) (by decide) hg); replace HO372 := a_ (Kd.R_after (ok := (fun _ => True)) HO372.out hg hat); replace HB := a_ hb; clear HO_7; clear ho hb hg hat; obtain ⟨hcz52_0, hcz52_1, hcz52_2, hcz52_3, hfz52_0, hfz52_1, hfz52_2, hfz52_3⟩ := blk4 BK366.out) | ((with_reducible refine gate_builtin (b := .append) (xs := #[.tmp 57, .tmp 59]) rfl ?_); at_builtin; refine Kd.R_append_rows (Kd.int .u8) (w0 := w) w.heap.size rfl (.tmp 57) (.tmp 59) 22 5 (.int .u8 0) 1 rfl Tryd.underlying22 info5 rfl (by decide) (by omega) v374 y373 ((rd_T51 l1 x33_2).f3) _ _ _ (fun k_ => some k_ ≠ (.slice Ao51 t370.length co51 : Value).ownBlock) (fun _ => False) rfl rfl ?aO ?aR (fun _ _ h => h) (fun _ h => h.elim) ?aF ?aB ?aS ?aL ?_; (case aR => exact (Kd.C_below HR365_3.out HB.out)); (case aB => exact HB.out); (case aF => exact (fun k_ hk => Kd.fresh' (Kd.R_lt HO372.out) k_ hk)); (case aO => exact HO375.out); (case aS => exact (below_size HB.out)); (case aL => have := LMc41.out; omega); intro v377 w53 ho hb hg hat; rw [← Ny376.out] at ho; have HO378 := a_ ho; replace BK340 := a_ (blk_grown BK340.out hg (Kd.R_ne HO375.out BK340.out (by decide))); replace BK366 := a_ (blk_grown BK366.out hg (Kd.R_ne HO375.out BK366.out (by decide))); replace HO369 := a_ (Kd.R_over' HO369.out (Kd.R_typed HO375.out) (by decide) hg); replace HO372 := a_ (Kd.R_after (ok := (fun _ => True)) HO372.out hg hat); replace HB := a_ hb; clear HO375; clear ho hb hg hat))
       go_roundg k2
       case measure => have := HJ2.out; have := HK2.out; omega
       case rel => exact ⟨(y376), (wrap64 (x33_2 + 1)), (by rfl), H', ⟨by have := HJ2.out; have := HK2.out; omega⟩, ⟨by exact Kd.R_mono HO378.out (fun _ hk => trivial)⟩, ⟨by exact BK340.out⟩, ⟨by exact HB.out⟩⟩
     ·rw [if_neg c32] at H
      have c32b0 := decide_eq_false c32
      clear c32
      obtain ⟨rfl, rfl⟩ := s2_ H
      go_wp2
      go_ret2
      exact ⟨_, by (rfl), by exact HO_7.out, by exact HB.out⟩

end Go.Proofs.YtgnonglkibhnhaaDoor.Print
