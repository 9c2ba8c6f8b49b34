import Derived.Test.YtgnonglkibhnhaaDoorZ
import Derived.Test.YtgnonglkibhnhaaDoorM4
import Derived.Test.YtgnonglkibhnhaaDoorF54
namespace Go.Proofs.YtgnonglkibhnhaaDoor.Print
open Go.RowKit Go.Proofs.YtgnonglkibhnhaaDoorW.PrintWords Go.Proofs.YtgnonglkibhnhaaDoorW.PrintLast Go.Proofs.YtgnonglkibhnhaaDoorW.PrintMore
attribute [local go_sem] max2_int min2_int max_two min_two max_three min_three max_four min_four
set_option linter.unusedVariables false
set_option linter.unusedSimpArgs false

/-! ### capture_records_write: function 30 -/
def capture_records_write.l0 : Nat → List (S51) → List (S42) → Int → Int → Option (List Int × Int)
 | 0, _, _, _, _ => none
 | k + 1, x6, x10, x11, x12 => if x12 < x11 then (if 0 ≤ x12 then (if x12 < (x10.length : Int) then ((some (([(wrap64 (((rd_T42 x10 x12).f0) - 1)) % 256] : List Int) : List Int)).bind fun y382 => ((capture_whole.f ((rd_T42 x10 x12).f0) ((rd_T42 x10 x12).f1) ((rd_T42 x10 x12).f2)).bind fun t385 => (if y382.length + t385.length < 140737488355328 then ((some (y382 ++ t385 : List Int)).bind fun y388 => (if x6.length < 3518437208883 then (capture_records_write.l0 k (x6 ++ [(⟨(x12) % 4294967296, 0, (y388.length : Int) % 4294967296, y388⟩ : S51)]) x10 x11 (wrap64 (x12 + 1))) else (none))) else (none)))) else (none)) else (none)) else ((pcap_Put.f k false false 65535 204 x6).bind fun bt394 => (some (bt394.1, bt394.2)))
def capture_records_write.f (k : Nat) (a0_0 : Int) (a0_1 : Int) (l1 : List (S42)) : Option (List Int × Int) := capture_records_write.l0 k ([] : List (S51)) l1 (l1.length : Int) 0
def capture_records_write.T5 : Bool × List (List Nat × List Nat) := (true, [([], []), ([0], [0]), ([1], [1]), ([2], [2]), ([3], [3]), ([], []), ([5], [5]), ([4, 6, 6], [4, 6]), ([7, 7, 0, 1, 2, 3, 4, 5, 6, 7], [7])])
def capture_records_write.B5 : List Nat := [0, 1, 3, 7, 15, 0, 32, 127, 255]
theorem capture_records_write.tab5 : rtab .any (opsOf Tryd.f30 5) = capture_records_write.T5 := by kernel_rfl
theorem capture_records_write.bits5 : waitsOk capture_records_write.T5.2 capture_records_write.B5 = true := by kernel_rfl
set_option maxHeartbeats 8000000 in
set_option maxRecDepth 100000 in
theorem capture_records_write.calls (k : Nat) (a0_0 : Int) (a0_1 : Int) (A1 : Option Addr) (c1 : Nat) (l1 : List (S42)) (r1 : List Int) (r2 : Int) (w : World) (hr1 : Kd.C k42 w A1 l1.length l1) (hc1 : l1.length ≤ c1) (h : capture_records_write.f k a0_0 a0_1 l1 = some (r1, r2)) :
  Calls Tryd.prog 30 #[.agg #[], .slice A1 l1.length c1] w fun e w' => ∃ v0_ : Value, e = .returned (.tuple #[v0_, .int .i64 r2]) ∧ Kd.R (Kd.int .u8) 5 w' w.heap.size (fun _ => True) v0_ r1 ∧ Below w.heap.size w w' := by
 have hu30 := Tryd.underlying30
 have hu65 := Tryd.underlying65
 have hu42 := Tryd.underlying42
 have hu51 := Tryd.underlying51
 have hu46 := Tryd.underlying46
 have HR1 := a_ hr1
 have HC1 := a_ hc1
 clear hr1 hc1
 have HB := a_ (Below.refl w.heap.size w)
 have H := h
 clear h
 unfold capture_records_write.f at H
 have H' := a_ H
 clear H
 go_enter Tryd.func30, Tryd.ntmps30
 go_wp2_with (first | (refine be_ 2 #[] 65 ?_; intro gb379 hg w3 hbox hb; have BK379 := a_ hbox; have GE379 := lb_ HB hg; replace HB := bs_ HB hb; clear hb hbox hg))
 go_loopg [6, 12] k (fun kq v6 v12 w' => ∃ (x6_1 : List (S51)) (x12_1 : Int), v12 = .int .i64 x12_1 ∧ Aside0 (capture_records_write.l0 kq x6_1 l1 (l1.length : Int) x12_1 = some (r1, r2)) ∧ Aside0 (kq ≤ k) ∧ Aside0 (Kd.S k51 51 w' w.heap.size (fun _ => True) v6 x6_1) ∧ Aside0 (w'.heap[gb379]? = some (.cells #[] 65 (0, 0))) ∧ Aside0 (Below w.heap.size w w'))
 case atStart => exact ⟨([] : List (S51)), (0), (by rfl), H', ⟨Nat.le_refl _⟩, ⟨by (exact Kd.S_nil _ _ _ _ _)⟩, ⟨by exact BK379.out⟩, ⟨by exact HB.out⟩⟩
 case round =>
  clear H'
  obtain ⟨x6_1, x12_1, rfl, HA, HK1, HO_6, BK379, HB⟩ := hrel
  cases gk with
  | zero => exact absurd HA.out (by simp [capture_records_write.l0])
  | succ k1 =>
   have H := HA.out
   clear HA
   simp only [capture_records_write.l0] at H
   by_cases c4 : x12_1 < (l1.length : Int)
   ·rw [if_pos c4] at H
    have c4b0 := decide_eq_true c4
    clear c4
    have c5b0 := ifd_ H
    replace H := ift_ H
    have c6b0 := ifd_ H
    replace H := ift_ H
    obtain ⟨y382, hy382⟩ := is_ ((([(wrap64 (((rd_T42 l1 x12_1).f0) - 1)) % 256] : List Int)) : List Int)
    rw [Option.bind_some, ← hy382] at H
    have Ny382 := a_ hy382
    clear hy382
    replace H := Option.bind_eq_some_iff.mp H
    obtain ⟨t385, A70, H⟩ := H
    try dsimp only at H
    have A7 := a_ A70
    clear A70
    have c8 := ifc_ H
    replace H := ift_ H
    have LMc8 := a_ c8
    clear c8
    obtain ⟨y388, hy388⟩ := is_ ((y382 ++ t385) : List Int)
    rw [Option.bind_some, ← hy388] at H
    have Ny388 := a_ hy388
    clear hy388
    have c9 := ifc_ H
    replace H := ift_ H
    have LMc9 := a_ c9
    clear c9
    obtain ⟨y391, hy391⟩ := is_ ((x6_1 ++ [(⟨(x12_1) % 4294967296, 0, (y388.length : Int) % 4294967296, y388⟩ : S51)]) : List (S51))
    rw [← hy391] at H
    have Ny391 := a_ hy391
    clear hy391
    have H' := a_ H
    clear H
    have p380 : 0 ≤ (x12_1 : Int) := da_
    have q380 : x12_1 < (l1.length : Int) := da_
    obtain ⟨ad380, A380_2, c380_2, e380, hx380_0, hx380_1, hx380_2, hl380_2, hi380_2⟩ := at_T42 HR1.out x12_1 p380 q380
    cases e380
    replace hx380_0 := cb_ HB hx380_0
    replace hx380_1 := cb_ HB hx380_1
    replace hx380_2 := cb_ HB hx380_2
    have HR380_2 := a_ hi380_2
    have HC380_2 := a_ hl380_2
    clear hi380_2 hl380_2
    replace p380 := eq_true p380
    replace q380 := eq_true q380
    try go_wp2_with (first | (refine be_ 8 #[.int .i64 0, .int .i64 0, .slice none 0 0] 42 ?_; intro gb381 hg w10 hbox hb; have BK381 := a_ hbox; have GE381 := lb_ HB hg; obtain ⟨NB379_381, NB381_379⟩ := nn_ BK379 hg; replace HO_6 := sb_ HO_6 hb; replace BK379 := bb_ BK379 hb; replace HB := bs_ HB hb; clear hb hbox hg; have hnb11 := NB381_379.out; have hnc11 := NB379_381.out; obtain ⟨hcz12_0, hcz12_1, hcz12_2, hfz12_0, hfz12_1, hfz12_2⟩ := blk3 BK381.out))
    have n0_ : Aside0 (Kd.S k51 51 (((w10.setCell ⟨gb381, 0, none⟩ (.int .i64 ((rd_T42 l1 x12_1).f0))).setCell ⟨gb381, 1, none⟩ (.int .i64 ((rd_T42 l1 x12_1).f1))).setCell ⟨gb381, 2, none⟩ (.slice A380_2 ((rd_T42 l1 x12_1).f2).length c380_2)) w.heap.size (fun _ => True) u6 x6_1) := ⟨by exact Kd.S_mono (Kd.S_far (p := ⟨gb381, 2, none⟩) (Kd.S_far (p := ⟨gb381, 1, none⟩) (Kd.S_far (p := ⟨gb381, 0, none⟩) (Kd.S_types HO_6.out BK381.out (by decide)) (fun _ hk => hk.2) (.int .i64 ((rd_T42 l1 x12_1).f0))) (fun _ hk => hk.2) (.int .i64 ((rd_T42 l1 x12_1).f1))) (fun _ hk => hk.2) (.slice A380_2 ((rd_T42 l1 x12_1).f2).length c380_2)) (fun _ hk => trivial)⟩
    have n1_ : Aside0 ((((w10.setCell ⟨gb381, 0, none⟩ (.int .i64 ((rd_T42 l1 x12_1).f0))).setCell ⟨gb381, 1, none⟩ (.int .i64 ((rd_T42 l1 x12_1).f1))).setCell ⟨gb381, 2, none⟩ (.slice A380_2 ((rd_T42 l1 x12_1).f2).length c380_2)).heap[gb379]? = some (.cells #[] 65 (0, 0))) := ⟨by refine blk_far ?_ NB379_381.out _; refine blk_far ?_ NB379_381.out _; refine blk_far ?_ NB379_381.out _; exact BK379.out⟩
    have n2_ : Aside0 ((((w10.setCell ⟨gb381, 0, none⟩ (.int .i64 ((rd_T42 l1 x12_1).f0))).setCell ⟨gb381, 1, none⟩ (.int .i64 ((rd_T42 l1 x12_1).f1))).setCell ⟨gb381, 2, none⟩ (.slice A380_2 ((rd_T42 l1 x12_1).f2).length c380_2)).heap[gb381]? = some (.cells #[.int .i64 ((rd_T42 l1 x12_1).f0), .int .i64 ((rd_T42 l1 x12_1).f1), .slice A380_2 ((rd_T42 l1 x12_1).f2).length c380_2] 42 (0, 0))) := ⟨by refine blk_put (cs := #[.int .i64 ((rd_T42 l1 x12_1).f0), .int .i64 ((rd_T42 l1 x12_1).f1), .slice none 0 0]) ?_ 2 _ rfl; refine blk_put (cs := #[.int .i64 ((rd_T42 l1 x12_1).f0), .int .i64 0, .slice none 0 0]) ?_ 1 _ rfl; refine blk_put (cs := #[.int .i64 0, .int .i64 0, .slice none 0 0]) ?_ 0 _ rfl; exact BK381.out⟩
    have n3_ : Aside0 (Below w.heap.size w (((w10.setCell ⟨gb381, 0, none⟩ (.int .i64 ((rd_T42 l1 x12_1).f0))).setCell ⟨gb381, 1, none⟩ (.int .i64 ((rd_T42 l1 x12_1).f1))).setCell ⟨gb381, 2, none⟩ (.slice A380_2 ((rd_T42 l1 x12_1).f2).length c380_2))) := ⟨by repeat (with_reducible first | exact HB.out | refine below_set ?_ GE381.out)⟩
    (try clear HO_6)
    (try clear BK379)
    (try clear BK381)
    (try clear HB)
    generalize (((w10.setCell ⟨gb381, 0, none⟩ (.int .i64 ((rd_T42 l1 x12_1).f0))).setCell ⟨gb381, 1, none⟩ (.int .i64 ((rd_T42 l1 x12_1).f1))).setCell ⟨gb381, 2, none⟩ (.slice A380_2 ((rd_T42 l1 x12_1).f2).length c380_2)) = w13 at n0_ n1_ n2_ n3_ ⊢
    have HO_6 := n0_
    have BK379 := n1_
    have BK381 := n2_
    have HB := n3_
    clear n0_ n1_ n2_ n3_
    replace HO_6 := a_ (Kd.S_drew HO_6.out)
    replace BK379 := a_ (blk_drew BK379.out)
    replace BK381 := a_ (blk_drew BK381.out)
    replace HB := a_ (below_drew1 HB.out)
    refine start_ (n := 9) (S := fun w' => w'.cell? ⟨gb381, 0, none⟩ = some (.int .i64 ((rd_T42 l1 x12_1).f0)) ∧ w'.cell? ⟨gb381, 1, none⟩ = some (.int .i64 ((rd_T42 l1 x12_1).f1)) ∧ w'.cell? ⟨gb381, 2, none⟩ = some (.slice A380_2 ((rd_T42 l1 x12_1).f2).length c380_2)) (ds := []) (bo_ 9 0) (by kernel_rfl) rfl rfl ⟨bc0 BK381, bc1 BK381, bc2 BK381⟩ (fun hHeld => ?_); refine with_tabW capture_records_write.tab5 capture_records_write.bits5 (fun HT_ HW_ => ?_)
    generalize w13.drew = w14 at HO_6 BK379 BK381 HB hHeld ⊢
    refine pu_ 0 (some 17) HT_ ?_
    refine take_ (i := 1) (N := some 18) (v := ?_) (a' := ?_) (bo_ 9 3) rfl rfl (take_ofW HT_.out HW_.out (by kernel_rfl)) (fun _ _ _ h => h) (Or.inl ⟨by rfl, ?_⟩) hHeld ?_ ?_
    rotate_left
    ·rintro w' ⟨s0, s1, s2⟩
     go_simp
     with_reducible rfl
    rotate_left
    ·simp only [Act.put, List.setIfInBounds_toArray, List.set_cons_zero, List.set_cons_succ, i64_w, i32_w]
     rfl
    refine pu_ 2 (some 19) HT_ ?_
    refine pu_ 3 (some 20) HT_ ?_
    refine take_ (i := 5) (N := some 22) (v := ?_) (a' := ?_) (bo_ 9 47) rfl rfl (take_ofW HT_.out HW_.out (by kernel_rfl)) (fun _ _ _ h => h) (Or.inl ⟨by rfl, ?_⟩) hHeld ?_ ?_
    rotate_left
    ·rintro w' ⟨s0, s1, s2⟩
     go_simp
     with_reducible rfl
    rotate_left
    ·simp only [Act.put, List.setIfInBounds_toArray, List.set_cons_zero, List.set_cons_succ, i64_w, i32_w]
     rfl
    refine join_ (σ := Value × Value) 2 (bo_ 9 127) (fun s_ => [(21, s_.1), (23, s_.2)]) (fun s_ w' => (w'.cell? ⟨gb381, 0, none⟩ = some (.int .i64 ((rd_T42 l1 x12_1).f0)) ∧ w'.cell? ⟨gb381, 1, none⟩ = some (.int .i64 ((rd_T42 l1 x12_1).f1)) ∧ w'.cell? ⟨gb381, 2, none⟩ = some (.slice A380_2 ((rd_T42 l1 x12_1).f2).length c380_2)) ∧ (Kd.R (Kd.int .u8) 5 w' w.heap.size (fun k_ => some k_ ≠ (s_.2 : Value).ownBlock) s_.1 y382) ∧ (Kd.R (Kd.int .u8) 5 w' w.heap.size (fun k_ => some k_ ≠ (s_.1 : Value).ownBlock) s_.2 t385) ∧ (Kd.S k51 51 w' w.heap.size (fun k_ => some k_ ≠ (s_.1 : Value).ownBlock ∧ some k_ ≠ (s_.2 : Value).ownBlock) u6 x6_1) ∧ (w'.heap[gb379]? = some (.cells #[] 65 (0, 0))) ∧ (w'.heap[gb381]? = some (.cells #[.int .i64 ((rd_T42 l1 x12_1).f0), .int .i64 ((rd_T42 l1 x12_1).f1), .slice A380_2 ((rd_T42 l1 x12_1).f2).length c380_2] 42 (0, 0))) ∧ (Below w.heap.size w w')) ?_ ?_
    rotate_left
    ·intro hCont
     refine two_ (i := 4) (j := 6) (Ni := some 21) (Nj := some 23) (bo_ 9 63) (bo_ 9 111) rfl rfl rfl rfl (two_of HT_.out (by kernel_rfl)) (by decide) (by decide) (fun K hK => ?_) (fun K hK => ?_)
     ·skip
      refine Kd.R_lit_step (Kd.int .u8) _ 5 ?hg (N := 21) ?hd (xs := ([(wrap64 (((rd_T42 l1 x12_1).f0) - 1)) % 256] : List Int)) (inner := [.int .u8 ((wrap64 (((rd_T42 l1 x12_1).f0) - 1)) % 256)]) (ok := fun _ => True) (okp := fun _ => True) ?hr ?hp (fun _ hk => hk) trivial (Below.refl _ _) (Nat.le_refl _) (by simp) ?_; (case hd => rfl); (case hg => rfl); (case hr => (go_simp; rfl)); (case hp => exact (Reps.one (show Kd.M (Kd.int .u8) _ _ _ ((wrap64 (((rd_T42 l1 x12_1).f0) - 1)) % 256) [.int .u8 ((wrap64 (((rd_T42 l1 x12_1).f0) - 1)) % 256)] from rfl) (Reps.none _ _)))
      intro v383 w15 ho16 hb hg_ hnew_
      clear hg_ hnew_
      rw [← Ny382.out] at ho16
      have HO384 := rl_ ho16 HB
      replace HO_6 := rS_ HO_6 ho16 hb
      replace BK379 := bb_ BK379 hb
      replace BK381 := bb_ BK381 hb
      replace HB := bs_ HB hb
      clear hb ho16
      refine hK.out _ _ ⟨bc0 BK381, bc1 BK381, bc2 BK381⟩ (fun hHeld => ?_)
      clear hK K
      refine nm_ (some 21) ?_
      refine one_ (i := 6) (N := some 23) (bo_ 9 127) rfl rfl (one_of HT_.out (by kernel_rfl)) (by decide) (fun K hK => ?_)
      refine goes_ Tryd.func51 (by kernel_rfl) rfl #[.agg #[.int .i64 ((rd_T42 l1 x12_1).f0), .int .i64 ((rd_T42 l1 x12_1).f1), .slice A380_2 ((rd_T42 l1 x12_1).f2).length c380_2]] (by rfl) rfl rfl (by (try simp only [List.map_toArray, List.map_cons, List.map_nil]); (rfl)) ?_
      with_reducible refine (capture_whole.calls ((rd_T42 l1 x12_1).f0) ((rd_T42 l1 x12_1).f1) _ _ ((rd_T42 l1 x12_1).f2) t385 _ ?side1 ?side2 A7.out).mono ?_
      (case side1 => exact (Kd.C_below HR380_2.out HB.out))
      (case side2 => exact HC380_2.out)
      rintro e w17 ⟨v386, rfl, ho0, hb⟩
      refine ⟨_, rfl, ?_⟩
      have HO387 := rn_ ho0 HO384 HB
      replace HO_6 := rS_ HO_6 ho0 hb
      replace HO384 := rR_ HO384 ho0 hb
      replace BK379 := bb_ BK379 hb
      replace BK381 := bb_ BK381 hb
      replace HB := bs_ HB hb
      (try clear hb)
      (try clear ho0)
      refine hK.out _ _ ⟨bc0 BK381, bc1 BK381, bc2 BK381⟩ (fun hHeld => ?_)
      clear hK K
      refine nm_ (some 23) ?_
      exact norm_ (by simp only [putAll, Act.put, List.setIfInBounds_toArray, List.set_cons_zero, List.set_cons_succ]) (hCont (v383, v386) _ ⟨hHeld, (by exact Kd.R_mono HO384.out (fun _ hk => hk.2)), (by exact Kd.R_mono HO387.out (fun _ hk => hk.2)), (by exact Kd.S_mono HO_6.out (fun _ hk => ⟨hk.1.2, hk.2⟩)), BK379.out, BK381.out, HB.out⟩)
     ·skip
      refine goes_ Tryd.func51 (by kernel_rfl) rfl #[.agg #[.int .i64 ((rd_T42 l1 x12_1).f0), .int .i64 ((rd_T42 l1 x12_1).f1), .slice A380_2 ((rd_T42 l1 x12_1).f2).length c380_2]] (by rfl) rfl rfl (by (try simp only [List.map_toArray, List.map_cons, List.map_nil]); (rfl)) ?_
      with_reducible refine (capture_whole.calls ((rd_T42 l1 x12_1).f0) ((rd_T42 l1 x12_1).f1) _ _ ((rd_T42 l1 x12_1).f2) t385 _ ?side1 ?side2 A7.out).mono ?_
      (case side1 => exact (Kd.C_below HR380_2.out HB.out))
      (case side2 => exact HC380_2.out)
      rintro e w15 ⟨v386, rfl, ho0, hb⟩
      refine ⟨_, rfl, ?_⟩
      have HO387 := rl_ ho0 HB
      replace HO_6 := rS_ HO_6 ho0 hb
      replace BK379 := bb_ BK379 hb
      replace BK381 := bb_ BK381 hb
      replace HB := bs_ HB hb
      (try clear hb)
      (try clear ho0)
      refine hK.out _ _ ⟨bc0 BK381, bc1 BK381, bc2 BK381⟩ (fun hHeld => ?_)
      clear hK K
      refine nm_ (some 23) ?_
      refine one_ (i := 4) (N := some 21) (bo_ 9 127) rfl rfl (one_of HT_.out (by kernel_rfl)) (by decide) (fun K hK => ?_)
      refine Kd.R_lit_step (Kd.int .u8) _ 5 ?hg (N := 21) ?hd (xs := ([(wrap64 (((rd_T42 l1 x12_1).f0) - 1)) % 256] : List Int)) (inner := [.int .u8 ((wrap64 (((rd_T42 l1 x12_1).f0) - 1)) % 256)]) (ok := fun _ => True) (okp := fun _ => True) ?hr ?hp (fun _ hk => hk) trivial (Below.refl _ _) (Nat.le_refl _) (by simp) ?_; (case hd => rfl); (case hg => rfl); (case hr => (go_simp; rfl)); (case hp => exact (Reps.one (show Kd.M (Kd.int .u8) _ _ _ ((wrap64 (((rd_T42 l1 x12_1).f0) - 1)) % 256) [.int .u8 ((wrap64 (((rd_T42 l1 x12_1).f0) - 1)) % 256)] from rfl) (Reps.none _ _)))
      intro v383 w16 ho17 hb hg_ hnew_
      clear hg_ hnew_
      rw [← Ny382.out] at ho17
      have HO384 := rn_ ho17 HO387 HB
      replace HO_6 := rS_ HO_6 ho17 hb
      replace HO387 := rR_ HO387 ho17 hb
      replace BK379 := bb_ BK379 hb
      replace BK381 := bb_ BK381 hb
      replace HB := bs_ HB hb
      clear hb ho17
      refine hK.out _ _ ⟨bc0 BK381, bc1 BK381, bc2 BK381⟩ (fun hHeld => ?_)
      clear hK K
      refine nm_ (some 21) ?_
      exact norm_ (by simp only [putAll, Act.put, List.setIfInBounds_toArray, List.set_cons_zero, List.set_cons_succ]) (hCont (v383, v386) _ ⟨hHeld, (by exact Kd.R_mono HO384.out (fun _ hk => hk.2)), (by exact Kd.R_mono HO387.out (fun _ hk => hk.2)), (by exact Kd.S_mono HO_6.out (fun _ hk => ⟨hk.2, hk.1.2⟩)), BK379.out, BK381.out, HB.out⟩)
    rintro ⟨v383, v386⟩ w18 ⟨hS_, h0_, h1_, h2_, h3_, h4_, h5_⟩
    have n0_ : Aside0 (Kd.R (Kd.int .u8) 5 w18 w.heap.size (fun k_ => some k_ ≠ (v386 : Value).ownBlock) v383 y382) := ⟨h0_⟩
    have n1_ : Aside0 (Kd.R (Kd.int .u8) 5 w18 w.heap.size (fun k_ => some k_ ≠ (v383 : Value).ownBlock) v386 t385) := ⟨h1_⟩
    have n2_ : Aside0 (Kd.S k51 51 w18 w.heap.size (fun k_ => some k_ ≠ (v383 : Value).ownBlock ∧ some k_ ≠ (v386 : Value).ownBlock) u6 x6_1) := ⟨h2_⟩
    have n3_ : Aside0 (w18.heap[gb379]? = some (.cells #[] 65 (0, 0))) := ⟨h3_⟩
    have n4_ : Aside0 (w18.heap[gb381]? = some (.cells #[.int .i64 ((rd_T42 l1 x12_1).f0), .int .i64 ((rd_T42 l1 x12_1).f1), .slice A380_2 ((rd_T42 l1 x12_1).f2).length c380_2] 42 (0, 0))) := ⟨h4_⟩
    have n5_ : Aside0 (Below w.heap.size w w18) := ⟨h5_⟩
    clear HO_6
    clear BK379
    clear BK381
    clear HB
    clear h0_ h1_ h2_ h3_ h4_ h5_
    have HO384 := n0_
    have HO387 := n1_
    have HO_6 := n2_
    have BK379 := n3_
    have BK381 := n4_
    have HB := n5_
    clear n0_ n1_ n2_ n3_ n4_ n5_
    have hHeld : w18.cell? ⟨gb381, 0, none⟩ = some (.int .i64 ((rd_T42 l1 x12_1).f0)) ∧ w18.cell? ⟨gb381, 1, none⟩ = some (.int .i64 ((rd_T42 l1 x12_1).f1)) ∧ w18.cell? ⟨gb381, 2, none⟩ = some (.slice A380_2 ((rd_T42 l1 x12_1).f2).length c380_2) := hS_
    obtain ⟨Ao20, co20, eo20⟩ := Kd.R_slice HO387.out
    subst eo20
    refine norm_ (a' := ?_) ?_ ?_
    rotate_left
    ·simp only [putAll, Act.put, List.setIfInBounds_toArray, List.set_cons_zero, List.set_cons_succ]
     rfl
    refine one_ (i := 7) (N := some 24) (bo_ 9 255) rfl rfl (one_of HT_.out (by kernel_rfl)) (by decide) (fun K hK => ?_)
    refine Kd.R_append_rows_step (Kd.int .u8) (w0 := w) w.heap.size (by rfl) (.tmp 21) (.tmp 23) 22 5 (.int .u8 0) 1 rfl Tryd.underlying22 info5 rfl (by decide) (by omega) v383 y382 t385 _ _ _ (fun k_ => some k_ ≠ (.slice Ao20 t385.length co20 : Value).ownBlock) (fun _ => False) rfl rfl ?aO ?aR (fun _ _ h => h) (fun _ h => h.elim) ?aF ?aB ?aS ?aL ?_
    (case aR => exact (Kd.R_reads' HO387.out).2.2)
    (case aB => exact HB.out)
    (case aF => exact (fun k_ hk => Kd.fresh' (Kd.R_lt HO387.out) k_ hk))
    (case aO => exact HO384.out)
    (case aS => exact (below_size HB.out))
    (case aL => have := LMc8.out; omega)
    intro v389 w19 ho hb hg hat
    rw [← Ny388.out] at ho
    have HO390 := a_ ho
    replace HO_6 := a_ (Kd.S_after (ok := (fun k_ => some k_ ≠ (.slice Ao20 t385.length co20 : Value).ownBlock)) (by exact Kd.S_mono HO_6.out (fun _ hk => ⟨hk.2, hk.1⟩)) hg hat)
    replace BK379 := a_ (blk_grown BK379.out hg (Kd.R_ne HO384.out BK379.out (by decide)))
    replace BK381 := a_ (blk_grown BK381.out hg (Kd.R_ne HO384.out BK381.out (by decide)))
    replace HO387 := a_ (Kd.R_after (ok := (fun _ => True)) (by exact Kd.R_mono HO387.out (fun _ hk => ⟨trivial, hk⟩)) hg hat)
    replace HB := a_ hb
    clear HO384
    clear ho hb hg hat
    refine hK.out _ _ ⟨bc0 BK381, bc1 BK381, bc2 BK381⟩ (fun hHeld => ?_)
    clear hK K
    refine nm_ (some 24) ?_
    refine pu_ 8 (some 9) HT_ ?_
    refine done_ (done_of HT_.out (by kernel_rfl)) ?_
    obtain ⟨Ao21, co21, eo21⟩ := Kd.R_slice HO390.out
    subst eo21
    try go_wp2_with (first | ((with_reducible refine gate_builtin (b := .append) (xs := #[.tmp 25, .tmp 33]) rfl ?_); at_builtin; refine Kd.S_append k51 (w0 := w) w.heap.size rfl (.tmp 25) (.tmp 33) 47 51 (.agg #[(.int .u32 0), (.int .u32 0), (.int .u32 0), (.slice none 0 0)]) 40 rfl Tryd.underlying47 info51 rfl (by decide) (by omega) u6 x6_1 (⟨(x12_1) % 4294967296, 0, (y388.length : Int) % 4294967296, y388⟩ : S51) [.int .u32 ((x12_1) % 4294967296), .int .u32 0, .int .u32 ((y388.length : Int) % 4294967296), .slice Ao21 y388.length co21] (fun k_ => some k_ ≠ (.slice Ao20 t385.length co20 : Value).ownBlock) (fun k_ => some k_ = (.slice Ao21 y388.length co21 : Value).ownBlock) rfl rfl ?aP (fun k_ hk_ => ((Kd.R_mono (ok' := fun k_ => (fun k_ => some k_ ≠ (.slice Ao20 t385.length co20 : Value).ownBlock) k_ ∧ some k_ ≠ (u6 : Value).ownBlock) (Kd.R_apart' (HO390.out) (Kd.S_typed HO_6.out) (by decide)) (fun k_ hk => ⟨hk.1, hk.2⟩))).1 k_ hk_.symm) ?aF ?aO ?aB ?aS ?aL ?_; (case aP => exact k51_mkM _ _ _ (⟨(x12_1) % 4294967296, 0, (y388.length : Int) % 4294967296, y388⟩ : S51) (Kd.R_mono (Kd.R_tight rfl (Kd.R_mono (ok' := fun k_ => (fun k_ => some k_ ≠ (.slice Ao20 t385.length co20 : Value).ownBlock) k_ ∧ some k_ ≠ (u6 : Value).ownBlock) (Kd.R_apart' (HO390.out) (Kd.S_typed HO_6.out) (by decide)) (fun k_ hk => ⟨hk.1, hk.2⟩))) (fun _ h_ => h_))); (case aB => exact HB.out); (case aF => exact (fun k_ hk => Kd.fresh' (Kd.R_lt HO387.out) k_ hk)); (case aO => exact (by exact Kd.S_mono HO_6.out (fun k_ hk => ⟨hk.1, fun e_ => hk.2 e_⟩))); (case aS => exact (below_size HB.out)); (case aL => have := LMc9.out; omega); intro v392 w22 ho hb hg hat; rw [← Ny391.out] at ho; have HO393 := a_ ho; replace BK379 := a_ (blk_grown BK379.out hg (Kd.S_ne HO_6.out BK379.out (by decide))); replace BK381 := a_ (blk_grown BK381.out hg (Kd.S_ne HO_6.out BK381.out (by decide))); replace HO387 := a_ (Kd.R_over' HO387.out (Kd.S_typed HO_6.out) (by decide) hg); replace HB := a_ hb; clear HO_6; clear HO390; clear ho hb hg hat))
    go_roundg k1
    case measure => have := HK1.out; omega
    case rel => exact ⟨(y391), (wrap64 (x12_1 + 1)), (by rfl), H', ⟨by have := HK1.out; omega⟩, ⟨by exact Kd.S_mono HO393.out (fun _ hk => trivial)⟩, ⟨by exact BK379.out⟩, ⟨by exact HB.out⟩⟩
   ·rw [if_neg c4] at H
    have c4b0 := decide_eq_false c4
    clear c4
    replace H := Option.bind_eq_some_iff.mp H
    obtain ⟨⟨t394, t397⟩, A230, H⟩ := H
    try dsimp only at H
    have A23 := a_ A230
    clear A230
    obtain ⟨rfl, rfl⟩ := s2_ H
    obtain ⟨Ao24, co24, eo24⟩ := Kd.S_slice HO_6.out
    subst eo24
    go_wp2_with (first | (refine gl_ (some 38) Tryd.func54 #[.agg #[.bool false, .bool false, .int .u32 65535, .int .u32 204], .slice Ao24 x6_1.length co24] ?_; (with_reducible refine (pcap_Put.calls k1 false false 65535 204 _ _ x6_1 t394 t397 _ ((Kd.S_reads' HO_6.out).2.2) ((Kd.S_reads' HO_6.out).2.1) A23.out).mono ?_); rintro e w25 ⟨v395, rfl, ho0, hb⟩; refine ⟨_, rfl, ?_⟩; have HO396 := rl_ ho0 HB; replace HO_6 := rS_ HO_6 ho0 hb; replace BK379 := bb_ BK379 hb; replace HB := bs_ HB hb; (try clear hb); (try clear ho0)))
    go_ret2
    exact ⟨_, by (rfl), by exact HO396.out, by exact HB.out⟩

end Go.Proofs.YtgnonglkibhnhaaDoor.Print
