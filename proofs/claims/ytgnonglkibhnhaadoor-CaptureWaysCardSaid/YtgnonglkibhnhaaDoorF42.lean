-- laid by this session's own program (wip/mkprint.sh) for this claim
import Derived.Test.YtgnonglkibhnhaaDoor0
import Derived.Test.YtgnonglkibhnhaaDoorF61
import Derived.Test.YtgnonglkibhnhaaDoorM1
namespace Go.Proofs.YtgnonglkibhnhaaDoor.Print
open Go.RowKit Go.Proofs.YtgnonglkibhnhaaDoorW.PrintWords Go.Proofs.YtgnonglkibhnhaaDoorW.PrintLast Go.Proofs.YtgnonglkibhnhaaDoorW.PrintMore
attribute [local go_sem] max2_int min2_int max_two min_two max_three min_three max_four min_four   -- for this text's walks alone
set_option linter.unusedVariables false
set_option linter.unusedSimpArgs false

/-! ### pcap_Read: function 42 -/
def pcap_Read.l0 : Nat → List Int → List (S51) → Int → Bool → Bool → Int → Int → Option (Bool × Bool × Int × Int × (List (S51)) × Int × Int)
 | 0, _, _, _, _, _, _, _ => none
 | k + 1, x0, x7, x8, x113000, x113001, x113002, x113003 => if x8 < (x0.length : Int) then (if 0 ≤ x8 then (if x8 ≤ (x0.length : Int) then ((pcap_Next.f k (x0.drop (x8 : Int).toNat) x113000).bind fun bt114 => (if bt114.2.2.2.2.2 = 0 then (if x7.length < 3518437208883 then (pcap_Read.l0 k x0 (x7 ++ [(⟨bt114.1, bt114.2.1, bt114.2.2.1, bt114.2.2.2.1⟩ : S51)]) (wrap64 (x8 + bt114.2.2.2.2.1)) x113000 x113001 x113002 x113003) else (none)) else (some (x113000, x113001, x113002, x113003, x7, x8, bt114.2.2.2.2.2)))) else (none)) else (none)) else (some (x113000, x113001, x113002, x113003, x7, 0, 0))
def pcap_Read.f (k : Nat) (l0 : List Int) : Option (Bool × Bool × Int × Int × (List (S51)) × Int × Int) := (pcap_Head.f k l0).bind fun bt107 => (if bt107.2.2.2.2 = 0 then (pcap_Read.l0 k l0 ([] : List (S51)) 24 bt107.1 bt107.2.1 bt107.2.2.1 bt107.2.2.2.1) else (some (false, false, 0, 0, ([] : List (S51)), 0, bt107.2.2.2.2)))
def pcap_Read.T7 : Bool × List (List Nat × List Nat) := (true, [([], []), ([], []), ([0, 1], [0, 1]), ([], []), ([3], [3]), ([2, 4], [2, 4]), ([5], [5]), ([6], [6]), ([6], [6]), ([6], [6]), ([], []), ([10, 7, 5, 0, 1, 2, 3, 4, 5, 6, 7, 10], [7, 10]), ([8, 11, 0, 1, 2, 3, 4, 5, 6, 7, 8, 10, 11], [8]), ([9, 12, 0, 1, 2, 3, 4, 5, 6, 7, 8, 9, 10, 11, 12], [9])])
def pcap_Read.B7 : List Nat := [0, 0, 3, 0, 8, 31, 63, 127, 127, 127, 0, 1279, 3583, 8191]
theorem pcap_Read.tab7 : rtab .any (opsOf Tryd.f42 7) = pcap_Read.T7 := by kernel_rfl
theorem pcap_Read.bits7 : waitsOk pcap_Read.T7.2 pcap_Read.B7 = true := by kernel_rfl
set_option maxHeartbeats 8000000 in
set_option maxRecDepth 100000 in
theorem pcap_Read.calls (k : Nat) (A0 : Option Addr) (c0 : Nat) (l0 : List Int) (r1 : Bool) (r2 : Bool) (r3 : Int) (r4 : Int) (r5 : List (S51)) (r6 : Int) (r7 : Int) (w : World) (hr0 : Kd.C (Kd.int .u8) w A0 l0.length l0) (hc0 : l0.length ≤ c0) (h : pcap_Read.f k l0 = some (r1, r2, r3, r4, r5, r6, r7)) :
  Calls Tryd.prog 42 #[.slice A0 l0.length c0] w fun e w' => ∃ v4_ : Value, e = .returned (.tuple #[.agg #[.bool r1, .bool r2, .int .u32 r3, .int .u32 r4], v4_, .agg #[.int .i64 r6, .int .i64 r7]]) ∧ Kd.S k51 51 w' w.heap.size (fun _ => True) v4_ r5 ∧ Below w.heap.size w w' := by
 have hu46 := Tryd.underlying46
 have hu30 := Tryd.underlying30
 have hu51 := Tryd.underlying51
 have HR0 := Aside0.mk hr0
 have HC0 := Aside0.mk hc0
 clear hr0 hc0
 have HB := Aside0.mk (Below.refl w.heap.size w)
 have H : ((pcap_Head.f k l0).bind fun bt107 => (if bt107.2.2.2.2 = 0 then (pcap_Read.l0 k l0 ([] : List (S51)) 24 bt107.1 bt107.2.1 bt107.2.2.1 bt107.2.2.2.1) else (some (false, false, 0, 0, ([] : List (S51)), 0, bt107.2.2.2.2)))) = some (r1, r2, r3, r4, r5, r6, r7) := h
 clear h
 replace H := Option.bind_eq_some_iff.mp H
 obtain ⟨⟨t107, t108, t109, t110, t111⟩, A20, H⟩ := H
 have A2 := Aside0.mk A20
 clear A20
 by_cases c3 : t111 = 0
 ·rw [if_pos c3] at H
  have c3b0 : (t111 == 0) = true := beq_iff_eq.mpr c3
  have c3b1 : (t111 != 0) = false := bne_eq_false_iff_eq.mpr c3
  clear c3
  have H' := Aside0.mk H
  clear H
  go_enter Tryd.func42, Tryd.ntmps42
  go_wp2_with (first | ((with_reducible refine gate_dst (N := 2) rfl ?_); refine box_event ?hg (N := 2) ?hd (cs := #[.bool false, .bool false, .int .u32 0, .int .u32 0]) (t := 46) ?hr ?_; (case hd => rfl); (case hg => rfl); (case hr => (go_simp; done)); intro gb105 hg w4 hbox hb; have BK105 := Aside0.mk (hbox); have GW105 := Aside0.mk ((by rw [hg]; exact (below_size HB.out) : w.heap.size ≤ gb105)); have GE105 := Aside0.mk ((by rw [hg]; exact (below_size HB.out) : w.heap.size ≤ gb105)); replace HB := Aside0.mk (below_step HB.out hb); clear hb hbox hg) | ((with_reducible refine gate_dst (N := 4) rfl ?_); refine box_event ?hg (N := 4) ?hd (cs := #[.int .i64 0, .int .i64 0]) (t := 30) ?hr ?_; (case hd => rfl); (case hg => rfl); (case hr => (go_simp; done)); intro gb106 hg w5 hbox hb; have BK106 := Aside0.mk (hbox); have GW106 := Aside0.mk ((by rw [hg]; exact (below_size HB.out) : w.heap.size ≤ gb106)); have GE106 := Aside0.mk ((by rw [hg]; exact (below_size HB.out) : w.heap.size ≤ gb106)); have NB105_106 := Aside0.mk ((by rw [hg]; exact Nat.ne_of_lt (blk_lt BK105.out) : gb105 ≠ gb106)); have NB106_105 := Aside0.mk ((by rw [hg]; exact Nat.ne_of_gt (blk_lt BK105.out) : gb106 ≠ gb105)); replace BK105 := Aside0.mk (blk_below BK105.out hb); replace HB := Aside0.mk (below_step HB.out hb); clear hb hbox hg) | ((with_reducible refine gate_callee (f := 61) rfl ?_); refine goesL_ (some 14) rfl rfl Tryd.func61 (by kernel_rfl) rfl #[.slice A0 l0.length c0] rfl (by (try simp only [List.map_toArray, List.map_cons, List.map_nil]); (rfl)) ?_; (with_reducible refine (pcap_Head.calls k _ _ l0 t107 t108 t109 t110 t111 _ ?side1 ?side2 A2.out).mono ?_); (case side1 => exact (Kd.C_below HR0.out HB.out)); (case side2 => exact HC0.out); rintro e w6 ⟨rfl, hb⟩; refine ⟨_, rfl, ?_⟩; replace BK105 := Aside0.mk (blk_below BK105.out hb); replace BK106 := Aside0.mk (blk_below BK106.out hb); replace HB := Aside0.mk (below_step HB.out hb); (try clear hb)) | ((with_reducible refine gate_dst (N := 5) rfl ?_); refine box_event ?hg (N := 5) ?hd (cs := #[.bool false, .bool false, .int .u32 0, .int .u32 0]) (t := 46) ?hr ?_; (case hd => rfl); (case hg => rfl); (case hr => (go_simp; done)); intro gb112 hg w7 hbox hb; have BK112 := Aside0.mk (hbox); have GW112 := Aside0.mk ((by rw [hg]; exact (below_size HB.out) : w.heap.size ≤ gb112)); have GE112 := Aside0.mk ((by rw [hg]; exact (below_size HB.out) : w.heap.size ≤ gb112)); have NB105_112 := Aside0.mk ((by rw [hg]; exact Nat.ne_of_lt (blk_lt BK105.out) : gb105 ≠ gb112)); have NB112_105 := Aside0.mk ((by rw [hg]; exact Nat.ne_of_gt (blk_lt BK105.out) : gb112 ≠ gb105)); have NB106_112 := Aside0.mk ((by rw [hg]; exact Nat.ne_of_lt (blk_lt BK106.out) : gb106 ≠ gb112)); have NB112_106 := Aside0.mk ((by rw [hg]; exact Nat.ne_of_gt (blk_lt BK106.out) : gb112 ≠ gb106)); replace BK105 := Aside0.mk (blk_below BK105.out hb); replace BK106 := Aside0.mk (blk_below BK106.out hb); replace HB := Aside0.mk (below_step HB.out hb); clear hb hbox hg; have hnb8 := NB112_105.out; have hnc8 := NB105_112.out; have hnb9 := NB112_106.out; have hnc9 := NB106_112.out; have hcz10_0 : w7.cell? ⟨gb112, 0, none⟩ = some (.bool false) := (blk_cell BK112.out 0).trans rfl; have hcz10_1 : w7.cell? ⟨gb112, 1, none⟩ = some (.bool false) := (blk_cell BK112.out 1).trans rfl; have hcz10_2 : w7.cell? ⟨gb112, 2, none⟩ = some (.int .u32 0) := (blk_cell BK112.out 2).trans rfl; have hcz10_3 : w7.cell? ⟨gb112, 3, none⟩ = some (.int .u32 0) := (blk_cell BK112.out 3).trans rfl; have hfz10_0 := blk_frozen BK112.out 0; have hfz10_1 := blk_frozen BK112.out 1; have hfz10_2 := blk_frozen BK112.out 2; have hfz10_3 := blk_frozen BK112.out 3))
  go_loopg [7, 8] k (fun kq v7 v8 w' => ∃ (x7_1 : List (S51)) (x8_1 : Int) (x106000_1 : Bool) (x106001_1 : Bool) (x106002_1 : Int) (x106003_1 : Int) (x107000_1 : Int) (x107001_1 : Int), v8 = .int .i64 x8_1 ∧ Aside0 (pcap_Read.l0 kq l0 x7_1 x8_1 t107 t108 t109 t110 = some (r1, r2, r3, r4, r5, r6, r7)) ∧ Aside0 (kq ≤ k) ∧ Aside0 (Kd.S k51 51 w' w.heap.size (fun _ => True) v7 x7_1) ∧ Aside0 (w'.heap[gb105]? = some (.cells #[.bool x106000_1, .bool x106001_1, .int .u32 x106002_1, .int .u32 x106003_1] 46 (0, 0))) ∧ Aside0 (w'.heap[gb106]? = some (.cells #[.int .i64 x107000_1, .int .i64 x107001_1] 30 (0, 0))) ∧ Aside0 (w'.heap[gb112]? = some (.cells #[.bool t107, .bool t108, .int .u32 t109, .int .u32 t110] 46 (0, 0))) ∧ Aside0 (Below w.heap.size w w'))
  case atStart => exact ⟨([] : List (S51)), (24), (false), (false), (0), (0), (0), (0), (by (rfl)), H', ⟨Nat.le_refl _⟩, ⟨by (exact Kd.S_nil _ _ _ _ _)⟩, ⟨by refine blk_far ?_ NB105_112.out _; refine blk_far ?_ NB105_112.out _; refine blk_far ?_ NB105_112.out _; refine blk_far ?_ NB105_112.out _; exact BK105.out⟩, ⟨by refine blk_far ?_ NB106_112.out _; refine blk_far ?_ NB106_112.out _; refine blk_far ?_ NB106_112.out _; refine blk_far ?_ NB106_112.out _; exact BK106.out⟩, ⟨by refine blk_put (cs := #[.bool t107, .bool t108, .int .u32 t109, .int .u32 0]) ?_ 3 _ rfl; refine blk_put (cs := #[.bool t107, .bool t108, .int .u32 0, .int .u32 0]) ?_ 2 _ rfl; refine blk_put (cs := #[.bool t107, .bool false, .int .u32 0, .int .u32 0]) ?_ 1 _ rfl; refine blk_put (cs := #[.bool false, .bool false, .int .u32 0, .int .u32 0]) ?_ 0 _ rfl; exact BK112.out⟩, ⟨by repeat (with_reducible first | exact HB.out | refine below_set ?_ GE112.out)⟩⟩
  case round =>
   clear H'
   try clear c3b0
   try clear c3b1
   try clear hcz10_0
   try clear hcz10_1
   try clear hcz10_2
   try clear hcz10_3
   try clear hfz10_0
   try clear hfz10_1
   try clear hfz10_2
   try clear hfz10_3
   obtain ⟨x7_1, x8_1, x106000_1, x106001_1, x106002_1, x106003_1, x107000_1, x107001_1, rfl, HA, HK1, HO_7, BK105, BK106, BK112, HB⟩ := hrel
   cases gk with
   | zero => exact absurd HA.out (by simp [pcap_Read.l0])
   | succ k1 =>
    have H := HA.out
    clear HA
    simp only [pcap_Read.l0] at H
    by_cases c11 : x8_1 < (l0.length : Int)
    ·rw [if_pos c11] at H
     have c11b0 : decide (x8_1 < (l0.length : Int)) = true := decide_eq_true c11
     clear c11
     by_cases c12 : 0 ≤ x8_1
     ·rw [if_pos c12] at H
      have c12b0 := eq_true c12
      have c12b1 : decide (0 ≤ x8_1) = true := decide_eq_true c12
      clear c12
      by_cases c13 : x8_1 ≤ (l0.length : Int)
      ·rw [if_pos c13] at H
       have c13b0 := eq_true c13
       have c13b1 : decide (x8_1 ≤ (l0.length : Int)) = true := decide_eq_true c13
       clear c13
       replace H := Option.bind_eq_some_iff.mp H
       obtain ⟨⟨t114, t115, t116, t117, t120, t121⟩, A140, H⟩ := H
       have A14 := Aside0.mk A140
       clear A140
       by_cases c15 : t121 = 0
       ·rw [if_pos c15] at H
        have c15b0 : (t121 == 0) = true := beq_iff_eq.mpr c15
        have c15b1 : (t121 != 0) = false := bne_eq_false_iff_eq.mpr c15
        clear c15
        by_cases c16 : x7_1.length < 3518437208883
        ·rw [if_pos c16] at H
         have LMc16 := Aside0.mk c16
         clear c16
         obtain ⟨y123, hy123⟩ : ∃ y_ : List (S51), y_ = (x7_1 ++ [(⟨t114, t115, t116, t117⟩ : S51)]) := ⟨_, rfl⟩
         replace H : (pcap_Read.l0 k1 l0 y123 (wrap64 (x8_1 + t120)) t107 t108 t109 t110) = some (r1, r2, r3, r4, r5, r6, r7) := by (rw [hy123]; with_reducible exact H)
         have Ny123 := Aside0.mk hy123
         clear hy123
         have H' := Aside0.mk H
         clear H
         try go_wp2
         replace HO_7 := Aside0.mk (Kd.S_drew HO_7.out)
         replace BK105 := Aside0.mk (blk_drew BK105.out)
         replace BK106 := Aside0.mk (blk_drew BK106.out)
         replace BK112 := Aside0.mk (blk_drew BK112.out)
         replace HB := Aside0.mk (below_drew1 HB.out)
         obtain ⟨i018, hi018, _, hsz18, _⟩ := info_parts info5
         obtain ⟨A18, hcut18, hA18, hC18⟩ := print_drop_of (P := Tryd.prog) (Value.int .u8) 0 22 5 .i64 Tryd.underlying22 hi018 hsz18 A0 c0 l0 x8_1 (of_decide_eq_true (by (with_reducible assumption))) (of_decide_eq_true (by (with_reducible assumption))) HC0.out
         have HR113 := Aside0.mk (Kd.C_of_reads (h1 := fun _ => rfl) (hA18 _ (Kd.reads_of_C HR0.out)))
         have HC113 := Aside0.mk hC18
         clear hA18 hC18 hi018 hsz18
         refine start_ (n := 14) (S := fun w' => w'.cell? ⟨gb112, 0, none⟩ = some (.bool t107) ∧ w'.cell? ⟨gb112, 1, none⟩ = some (.bool t108) ∧ w'.cell? ⟨gb112, 2, none⟩ = some (.int .u32 t109) ∧ w'.cell? ⟨gb112, 3, none⟩ = some (.int .u32 t110)) (ds := []) #[false, false, false, false, false, false, false, false, false, false, false, false, false, false] (by kernel_rfl) rfl rfl ⟨(blk_cell BK112.out 0).trans rfl, (blk_cell BK112.out 1).trans rfl, (blk_cell BK112.out 2).trans rfl, (blk_cell BK112.out 3).trans rfl⟩ (fun hHeld => ?_); refine with_tabW pcap_Read.tab7 pcap_Read.bits7 (fun HT_ HW_ => ?_)
         generalize wr.drew = w17 at HO_7 BK105 BK106 BK112 HB HR113 hHeld ⊢
         refine pure_ (i := 0) (N := some 27) (v := ?_) (a' := ?_) #[true, false, false, false, false, false, false, false, false, false, false, false, false, false] rfl rfl (any_of HT_.out (by kernel_rfl)) (fun _ _ _ h => h) (Or.inl ⟨by rfl, ?_⟩) ?_ ?_
         rotate_left
         ·intro w'
          go_simp
          with_reducible rfl
         rotate_left
         ·simp only [Act.put, List.setIfInBounds_toArray, List.set_cons_zero, List.set_cons_succ, i64_w, i32_w]
          rfl
         refine pure_ (i := 1) (N := some 28) (v := ?_) (a' := ?_) #[true, true, false, false, false, false, false, false, false, false, false, false, false, false] rfl rfl (any_of HT_.out (by kernel_rfl)) (fun _ _ _ h => h) (Or.inl ⟨by rfl, ?_⟩) ?_ ?_
         rotate_left
         ·intro w'
          go_simp
          with_reducible rfl
         rotate_left
         ·simp only [Act.put, List.setIfInBounds_toArray, List.set_cons_zero, List.set_cons_succ, i64_w, i32_w]
          rfl
         refine pure_ (i := 2) (N := some 29) (v := ?_) (a' := ?_) #[true, true, true, false, false, false, false, false, false, false, false, false, false, false] rfl rfl (any_of HT_.out (by kernel_rfl)) (fun _ _ _ h => h) (Or.inl ⟨by rfl, ?_⟩) ?_ ?_
         rotate_left
         ·intro w'
          go_simp
          with_reducible rfl
         rotate_left
         ·simp only [Act.put, List.setIfInBounds_toArray, List.set_cons_zero, List.set_cons_succ, i64_w, i32_w]
          rfl
         refine pure_ (i := 3) (N := some 30) (v := ?_) (a' := ?_) #[true, true, true, true, false, false, false, false, false, false, false, false, false, false] rfl rfl (any_of HT_.out (by kernel_rfl)) (fun _ _ _ h => h) (Or.inl ⟨by rfl, ?_⟩) ?_ ?_
         rotate_left
         ·intro w'
          go_simp
          with_reducible rfl
         rotate_left
         ·simp only [Act.put, List.setIfInBounds_toArray, List.set_cons_zero, List.set_cons_succ, i64_w, i32_w]
          rfl
         refine take_ (i := 4) (N := some 31) (v := ?_) (a' := ?_) #[true, true, true, true, true, false, false, false, false, false, false, false, false, false] rfl rfl (take_ofW HT_.out HW_.out (by kernel_rfl)) (fun _ _ _ h => h) (Or.inl ⟨by rfl, ?_⟩) hHeld ?_ ?_
         rotate_left
         ·rintro w' ⟨s0, s1, s2, s3⟩
          go_simp
          with_reducible rfl
         rotate_left
         ·simp only [Act.put, List.setIfInBounds_toArray, List.set_cons_zero, List.set_cons_succ, i64_w, i32_w]
          rfl
         refine join_ (σ := Value × Nat) 3 #[true, true, true, true, true, true, true, true, true, true, true, false, false, false] (fun s_ => [(32, .tuple #[.agg #[.int .u32 t114, .int .u32 t115, .int .u32 t116, s_.1], .int .i64 t120, .int .i64 t121]), (9, .pointer (some ⟨s_.2, 0, none⟩)), (26, .tuple #[.agg #[.int .u32 t114, .int .u32 t115, .int .u32 t116, s_.1], .int .i64 t120, .int .i64 t121]), (33, .agg #[.int .u32 t114, .int .u32 t115, .int .u32 t116, s_.1]), (34, .int .i64 t120), (35, .int .i64 t121)]) (fun s_ w' => (w'.cell? ⟨gb112, 0, none⟩ = some (.bool t107) ∧ w'.cell? ⟨gb112, 1, none⟩ = some (.bool t108) ∧ w'.cell? ⟨gb112, 2, none⟩ = some (.int .u32 t109) ∧ w'.cell? ⟨gb112, 3, none⟩ = some (.int .u32 t110)) ∧ (Kd.R (Kd.int .u8) 5 w' w.heap.size (fun _ => True) s_.1 t117) ∧ (Kd.S k51 51 w' w.heap.size (fun k_ => some k_ ≠ (s_.1 : Value).ownBlock ∧ k_ ≠ s_.2) u7 x7_1) ∧ (w'.heap[gb105]? = some (.cells #[.bool x106000_1, .bool x106001_1, .int .u32 x106002_1, .int .u32 x106003_1] 46 (0, 0))) ∧ (w'.heap[gb106]? = some (.cells #[.int .i64 x107000_1, .int .i64 x107001_1] 30 (0, 0))) ∧ (w'.heap[gb112]? = some (.cells #[.bool t107, .bool t108, .int .u32 t109, .int .u32 t110] 46 (0, 0))) ∧ (w'.heap[s_.2]? = some (.cells #[.int .u32 0, .int .u32 0, .int .u32 0, .slice none 0 0] 51 (0, 0))) ∧ (w.heap.size ≤ s_.2) ∧ (w.heap.size ≤ s_.2) ∧ (gb105 ≠ s_.2) ∧ (s_.2 ≠ gb105) ∧ (gb106 ≠ s_.2) ∧ (s_.2 ≠ gb106) ∧ (gb112 ≠ s_.2) ∧ (s_.2 ≠ gb112) ∧ (Below w.heap.size w w')) ?_ ?_
         rotate_left
         ·intro hCont
          refine two_ (i := 5) (j := 10) (Ni := some 32) (Nj := some 9) #[true, true, true, true, true, true, false, false, false, false, false, false, false, false] #[true, true, true, true, true, false, false, false, false, false, true, false, false, false] rfl rfl rfl rfl (two_of HT_.out (by kernel_rfl)) (by decide) (by decide) (fun K hK => ?_) (fun K hK => ?_)
          ·skip
           refine goes_ Tryd.func62 (by kernel_rfl) rfl #[.slice A18 (l0.drop (x8_1 : Int).toNat).length (c0 - x8_1.toNat), .bool t107] (by rfl) rfl rfl (by (try simp only [List.map_toArray, List.map_cons, List.map_nil]); (rw [show (l0.drop (x8_1 : Int).toNat).length = (l0.length - x8_1.toNat) from List.length_drop] <;> rfl)) ?_
           with_reducible refine (pcap_Next.calls k1 _ _ (l0.drop (x8_1 : Int).toNat) t107 t114 t115 t116 t117 t120 t121 _ ?side1 ?side2 A14.out).mono ?_
           (case side1 => exact (Kd.C_below HR113.out HB.out))
           (case side2 => exact HC113.out)
           rintro e w19 ⟨v118, rfl, ho0, hb⟩
           refine ⟨_, rfl, ?_⟩
           have HO119 := Aside0.mk (Kd.R_lower ho0 (below_size HB.out))
           replace HO_7 := Aside0.mk (Kd.S_elder' HO_7.out (by (exact Kd.R_base ho0)) hb)
           replace BK105 := Aside0.mk (blk_below BK105.out hb)
           replace BK106 := Aside0.mk (blk_below BK106.out hb)
           replace BK112 := Aside0.mk (blk_below BK112.out hb)
           replace HB := Aside0.mk (below_step HB.out hb)
           (try clear hb)
           (skip)
           (skip)
           (skip)
           (try clear ho0)
           refine hK.out _ _ ⟨(blk_cell BK112.out 0).trans rfl, (blk_cell BK112.out 1).trans rfl, (blk_cell BK112.out 2).trans rfl, (blk_cell BK112.out 3).trans rfl⟩ (fun hHeld => ?_)
           clear hK K
           refine norm_ (a' := ?_) ?_ ?_
           rotate_left
           ·show Act.put _ (some 32) _ = _
            simp only [Act.put, List.setIfInBounds_toArray, List.set_cons_zero, List.set_cons_succ, i64_w, i32_w]
            rfl
           refine pure_ (i := 6) (N := some 26) (v := ?_) (a' := ?_) #[true, true, true, true, true, true, true, false, false, false, false, false, false, false] rfl rfl (any_of HT_.out (by kernel_rfl)) (fun _ _ _ h => h) (Or.inl ⟨by rfl, ?_⟩) ?_ ?_
           rotate_left
           ·intro w'
            go_simp
            with_reducible rfl
           rotate_left
           ·simp only [Act.put, List.setIfInBounds_toArray, List.set_cons_zero, List.set_cons_succ, i64_w, i32_w]
            rfl
           refine pure_ (i := 7) (N := some 33) (v := ?_) (a' := ?_) #[true, true, true, true, true, true, true, true, false, false, false, false, false, false] rfl rfl (any_of HT_.out (by kernel_rfl)) (fun _ _ _ h => h) (Or.inl ⟨by rfl, ?_⟩) ?_ ?_
           rotate_left
           ·intro w'
            go_simp
            with_reducible rfl
           rotate_left
           ·simp only [Act.put, List.setIfInBounds_toArray, List.set_cons_zero, List.set_cons_succ, i64_w, i32_w]
            rfl
           refine pure_ (i := 8) (N := some 34) (v := ?_) (a' := ?_) #[true, true, true, true, true, true, true, true, true, false, false, false, false, false] rfl rfl (any_of HT_.out (by kernel_rfl)) (fun _ _ _ h => h) (Or.inl ⟨by rfl, ?_⟩) ?_ ?_
           rotate_left
           ·intro w'
            go_simp
            with_reducible rfl
           rotate_left
           ·simp only [Act.put, List.setIfInBounds_toArray, List.set_cons_zero, List.set_cons_succ, i64_w, i32_w]
            rfl
           refine pure_ (i := 9) (N := some 35) (v := ?_) (a' := ?_) #[true, true, true, true, true, true, true, true, true, true, false, false, false, false] rfl rfl (any_of HT_.out (by kernel_rfl)) (fun _ _ _ h => h) (Or.inl ⟨by rfl, ?_⟩) ?_ ?_
           rotate_left
           ·intro w'
            go_simp
            with_reducible rfl
           rotate_left
           ·simp only [Act.put, List.setIfInBounds_toArray, List.set_cons_zero, List.set_cons_succ, i64_w, i32_w]
            rfl
           refine one_ (i := 10) (N := some 9) #[true, true, true, true, true, true, true, true, true, true, true, false, false, false] rfl rfl (one_of HT_.out (by kernel_rfl)) (by decide) (fun K hK => ?_)
           refine box_step ?hg (N := 9) ?hd (cs := #[.int .u32 0, .int .u32 0, .int .u32 0, .slice none 0 0]) (t := 51) ?hr ?_; (case hd => rfl); (case hg => rfl); (case hr => (go_simp; done))
           intro gb122 hg w20 hbox hb
           have BK122 := Aside0.mk (hbox)
           have GW122 := Aside0.mk ((by rw [hg]; exact (below_size HB.out) : w.heap.size ≤ gb122))
           have GE122 := Aside0.mk ((by rw [hg]; exact (below_size HB.out) : w.heap.size ≤ gb122))
           have NB105_122 := Aside0.mk ((by rw [hg]; exact Nat.ne_of_lt (blk_lt BK105.out) : gb105 ≠ gb122))
           have NB122_105 := Aside0.mk ((by rw [hg]; exact Nat.ne_of_gt (blk_lt BK105.out) : gb122 ≠ gb105))
           have NB106_122 := Aside0.mk ((by rw [hg]; exact Nat.ne_of_lt (blk_lt BK106.out) : gb106 ≠ gb122))
           have NB122_106 := Aside0.mk ((by rw [hg]; exact Nat.ne_of_gt (blk_lt BK106.out) : gb122 ≠ gb106))
           have NB112_122 := Aside0.mk ((by rw [hg]; exact Nat.ne_of_lt (blk_lt BK112.out) : gb112 ≠ gb122))
           have NB122_112 := Aside0.mk ((by rw [hg]; exact Nat.ne_of_gt (blk_lt BK112.out) : gb122 ≠ gb112))
           replace HO_7 := Aside0.mk (Kd.S_below (Kd.S_elderB HO_7.out gb122 (Nat.le_of_eq hg.symm)) hb)
           replace HO119 := Aside0.mk (Kd.R_below HO119.out hb)
           replace BK105 := Aside0.mk (blk_below BK105.out hb)
           replace BK106 := Aside0.mk (blk_below BK106.out hb)
           replace BK112 := Aside0.mk (blk_below BK112.out hb)
           replace HB := Aside0.mk (below_step HB.out hb)
           clear hb hbox hg
           refine hK.out _ _ ⟨(blk_cell BK112.out 0).trans rfl, (blk_cell BK112.out 1).trans rfl, (blk_cell BK112.out 2).trans rfl, (blk_cell BK112.out 3).trans rfl⟩ (fun hHeld => ?_)
           clear hK K
           refine norm_ (a' := ?_) ?_ ?_
           rotate_left
           ·show Act.put _ (some 9) _ = _
            simp only [Act.put, List.setIfInBounds_toArray, List.set_cons_zero, List.set_cons_succ, i64_w, i32_w]
            rfl
           exact norm_ (by simp only [putAll, Act.put, List.setIfInBounds_toArray, List.set_cons_zero, List.set_cons_succ]) (hCont (v118, gb122) _ ⟨hHeld, HO119.out, (by exact Kd.S_mono HO_7.out (fun _ hk => ⟨hk.1.2, hk.2⟩)), BK105.out, BK106.out, BK112.out, BK122.out, GW122.out, GE122.out, NB105_122.out, NB122_105.out, NB106_122.out, NB122_106.out, NB112_122.out, NB122_112.out, HB.out⟩)
          ·skip
           refine box_step ?hg (N := 9) ?hd (cs := #[.int .u32 0, .int .u32 0, .int .u32 0, .slice none 0 0]) (t := 51) ?hr ?_; (case hd => rfl); (case hg => rfl); (case hr => (go_simp; done))
           intro gb122 hg w19 hbox hb
           have BK122 := Aside0.mk (hbox)
           have GW122 := Aside0.mk ((by rw [hg]; exact (below_size HB.out) : w.heap.size ≤ gb122))
           have GE122 := Aside0.mk ((by rw [hg]; exact (below_size HB.out) : w.heap.size ≤ gb122))
           have NB105_122 := Aside0.mk ((by rw [hg]; exact Nat.ne_of_lt (blk_lt BK105.out) : gb105 ≠ gb122))
           have NB122_105 := Aside0.mk ((by rw [hg]; exact Nat.ne_of_gt (blk_lt BK105.out) : gb122 ≠ gb105))
           have NB106_122 := Aside0.mk ((by rw [hg]; exact Nat.ne_of_lt (blk_lt BK106.out) : gb106 ≠ gb122))
           have NB122_106 := Aside0.mk ((by rw [hg]; exact Nat.ne_of_gt (blk_lt BK106.out) : gb122 ≠ gb106))
           have NB112_122 := Aside0.mk ((by rw [hg]; exact Nat.ne_of_lt (blk_lt BK112.out) : gb112 ≠ gb122))
           have NB122_112 := Aside0.mk ((by rw [hg]; exact Nat.ne_of_gt (blk_lt BK112.out) : gb122 ≠ gb112))
           replace HO_7 := Aside0.mk (Kd.S_below (Kd.S_elderB HO_7.out gb122 (Nat.le_of_eq hg.symm)) hb)
           replace BK105 := Aside0.mk (blk_below BK105.out hb)
           replace BK106 := Aside0.mk (blk_below BK106.out hb)
           replace BK112 := Aside0.mk (blk_below BK112.out hb)
           replace HB := Aside0.mk (below_step HB.out hb)
           clear hb hbox hg
           refine hK.out _ _ ⟨(blk_cell BK112.out 0).trans rfl, (blk_cell BK112.out 1).trans rfl, (blk_cell BK112.out 2).trans rfl, (blk_cell BK112.out 3).trans rfl⟩ (fun hHeld => ?_)
           clear hK K
           refine norm_ (a' := ?_) ?_ ?_
           rotate_left
           ·show Act.put _ (some 9) _ = _
            simp only [Act.put, List.setIfInBounds_toArray, List.set_cons_zero, List.set_cons_succ, i64_w, i32_w]
            rfl
           refine one_ (i := 5) (N := some 32) #[true, true, true, true, true, true, false, false, false, false, true, false, false, false] rfl rfl (one_of HT_.out (by kernel_rfl)) (by decide) (fun K hK => ?_)
           refine goes_ Tryd.func62 (by kernel_rfl) rfl #[.slice A18 (l0.drop (x8_1 : Int).toNat).length (c0 - x8_1.toNat), .bool t107] (by rfl) rfl rfl (by (try simp only [List.map_toArray, List.map_cons, List.map_nil]); (rw [show (l0.drop (x8_1 : Int).toNat).length = (l0.length - x8_1.toNat) from List.length_drop] <;> rfl)) ?_
           with_reducible refine (pcap_Next.calls k1 _ _ (l0.drop (x8_1 : Int).toNat) t107 t114 t115 t116 t117 t120 t121 _ ?side1 ?side2 A14.out).mono ?_
           (case side1 => exact (Kd.C_below HR113.out HB.out))
           (case side2 => exact HC113.out)
           rintro e w20 ⟨v118, rfl, ho0, hb⟩
           refine ⟨_, rfl, ?_⟩
           have HO119 := Aside0.mk (Kd.R_lower ho0 (below_size HB.out))
           replace HO_7 := Aside0.mk (Kd.S_elder' HO_7.out (by (exact Kd.R_base ho0)) hb)
           replace BK105 := Aside0.mk (blk_below BK105.out hb)
           replace BK106 := Aside0.mk (blk_below BK106.out hb)
           replace BK112 := Aside0.mk (blk_below BK112.out hb)
           replace BK122 := Aside0.mk (blk_below BK122.out hb)
           replace HB := Aside0.mk (below_step HB.out hb)
           (try clear hb)
           (skip)
           (skip)
           (skip)
           (try clear ho0)
           refine hK.out _ _ ⟨(blk_cell BK112.out 0).trans rfl, (blk_cell BK112.out 1).trans rfl, (blk_cell BK112.out 2).trans rfl, (blk_cell BK112.out 3).trans rfl⟩ (fun hHeld => ?_)
           clear hK K
           refine norm_ (a' := ?_) ?_ ?_
           rotate_left
           ·show Act.put _ (some 32) _ = _
            simp only [Act.put, List.setIfInBounds_toArray, List.set_cons_zero, List.set_cons_succ, i64_w, i32_w]
            rfl
           refine pure_ (i := 6) (N := some 26) (v := ?_) (a' := ?_) #[true, true, true, true, true, true, true, false, false, false, true, false, false, false] rfl rfl (any_of HT_.out (by kernel_rfl)) (fun _ _ _ h => h) (Or.inl ⟨by rfl, ?_⟩) ?_ ?_
           rotate_left
           ·intro w'
            go_simp
            with_reducible rfl
           rotate_left
           ·simp only [Act.put, List.setIfInBounds_toArray, List.set_cons_zero, List.set_cons_succ, i64_w, i32_w]
            rfl
           refine pure_ (i := 7) (N := some 33) (v := ?_) (a' := ?_) #[true, true, true, true, true, true, true, true, false, false, true, false, false, false] rfl rfl (any_of HT_.out (by kernel_rfl)) (fun _ _ _ h => h) (Or.inl ⟨by rfl, ?_⟩) ?_ ?_
           rotate_left
           ·intro w'
            go_simp
            with_reducible rfl
           rotate_left
           ·simp only [Act.put, List.setIfInBounds_toArray, List.set_cons_zero, List.set_cons_succ, i64_w, i32_w]
            rfl
           refine pure_ (i := 8) (N := some 34) (v := ?_) (a' := ?_) #[true, true, true, true, true, true, true, true, true, false, true, false, false, false] rfl rfl (any_of HT_.out (by kernel_rfl)) (fun _ _ _ h => h) (Or.inl ⟨by rfl, ?_⟩) ?_ ?_
           rotate_left
           ·intro w'
            go_simp
            with_reducible rfl
           rotate_left
           ·simp only [Act.put, List.setIfInBounds_toArray, List.set_cons_zero, List.set_cons_succ, i64_w, i32_w]
            rfl
           refine pure_ (i := 9) (N := some 35) (v := ?_) (a' := ?_) #[true, true, true, true, true, true, true, true, true, true, true, false, false, false] rfl rfl (any_of HT_.out (by kernel_rfl)) (fun _ _ _ h => h) (Or.inl ⟨by rfl, ?_⟩) ?_ ?_
           rotate_left
           ·intro w'
            go_simp
            with_reducible rfl
           rotate_left
           ·simp only [Act.put, List.setIfInBounds_toArray, List.set_cons_zero, List.set_cons_succ, i64_w, i32_w]
            rfl
           exact norm_ (by simp only [putAll, Act.put, List.setIfInBounds_toArray, List.set_cons_zero, List.set_cons_succ]) (hCont (v118, gb122) _ ⟨hHeld, HO119.out, (by exact Kd.S_mono HO_7.out (fun _ hk => ⟨hk.2, hk.1.2⟩)), BK105.out, BK106.out, BK112.out, BK122.out, GW122.out, GE122.out, NB105_122.out, NB122_105.out, NB106_122.out, NB122_106.out, NB112_122.out, NB122_112.out, HB.out⟩)
         rintro ⟨v118, gb122⟩ w21 ⟨hS_, h0_, h1_, h2_, h3_, h4_, h5_, h6_, h7_, h8_, h9_, h10_, h11_, h12_, h13_, h14_⟩
         have n0_ : Aside0 (Kd.R (Kd.int .u8) 5 w21 w.heap.size (fun _ => True) v118 t117) := ⟨h0_⟩
         have n1_ : Aside0 (Kd.S k51 51 w21 w.heap.size (fun k_ => some k_ ≠ (v118 : Value).ownBlock ∧ k_ ≠ gb122) u7 x7_1) := ⟨h1_⟩
         have n2_ : Aside0 (w21.heap[gb105]? = some (.cells #[.bool x106000_1, .bool x106001_1, .int .u32 x106002_1, .int .u32 x106003_1] 46 (0, 0))) := ⟨h2_⟩
         have n3_ : Aside0 (w21.heap[gb106]? = some (.cells #[.int .i64 x107000_1, .int .i64 x107001_1] 30 (0, 0))) := ⟨h3_⟩
         have n4_ : Aside0 (w21.heap[gb112]? = some (.cells #[.bool t107, .bool t108, .int .u32 t109, .int .u32 t110] 46 (0, 0))) := ⟨h4_⟩
         have n5_ : Aside0 (w21.heap[gb122]? = some (.cells #[.int .u32 0, .int .u32 0, .int .u32 0, .slice none 0 0] 51 (0, 0))) := ⟨h5_⟩
         have n6_ : Aside0 (w.heap.size ≤ gb122) := ⟨h6_⟩
         have n7_ : Aside0 (w.heap.size ≤ gb122) := ⟨h7_⟩
         have n8_ : Aside0 (gb105 ≠ gb122) := ⟨h8_⟩
         have n9_ : Aside0 (gb122 ≠ gb105) := ⟨h9_⟩
         have n10_ : Aside0 (gb106 ≠ gb122) := ⟨h10_⟩
         have n11_ : Aside0 (gb122 ≠ gb106) := ⟨h11_⟩
         have n12_ : Aside0 (gb112 ≠ gb122) := ⟨h12_⟩
         have n13_ : Aside0 (gb122 ≠ gb112) := ⟨h13_⟩
         have n14_ : Aside0 (Below w.heap.size w w21) := ⟨h14_⟩
         clear HO_7
         clear BK105
         clear BK106
         clear BK112
         clear HB
         clear h0_ h1_ h2_ h3_ h4_ h5_ h6_ h7_ h8_ h9_ h10_ h11_ h12_ h13_ h14_
         have HO119 := n0_
         have HO_7 := n1_
         have BK105 := n2_
         have BK106 := n3_
         have BK112 := n4_
         have BK122 := n5_
         have GW122 := n6_
         have GE122 := n7_
         have NB105_122 := n8_
         have NB122_105 := n9_
         have NB106_122 := n10_
         have NB122_106 := n11_
         have NB112_122 := n12_
         have NB122_112 := n13_
         have HB := n14_
         clear n0_ n1_ n2_ n3_ n4_ n5_ n6_ n7_ n8_ n9_ n10_ n11_ n12_ n13_ n14_
         have hHeld : w21.cell? ⟨gb112, 0, none⟩ = some (.bool t107) ∧ w21.cell? ⟨gb112, 1, none⟩ = some (.bool t108) ∧ w21.cell? ⟨gb112, 2, none⟩ = some (.int .u32 t109) ∧ w21.cell? ⟨gb112, 3, none⟩ = some (.int .u32 t110) := hS_
         obtain ⟨Ao25, co25, eo25⟩ := Kd.R_slice HO119.out
         (subst eo25)
         refine norm_ (a' := ?_) ?_ ?_
         rotate_left
         ·simp only [putAll, Act.put, List.setIfInBounds_toArray, List.set_cons_zero, List.set_cons_succ]
          rfl
         refine one_ (i := 11) (N := none) #[true, true, true, true, true, true, true, true, true, true, true, true, false, false] rfl rfl (one_of HT_.out (by kernel_rfl)) (by decide) (fun K hK => ?_)
         have hs22 : w21.cell? ⟨gb122, 0, none⟩ = some (.int .u32 0) := (blk_cell BK122.out 0).trans rfl
         have hfs22 := blk_frozen BK122.out 0
         have hns22_0 := NB105_122.out
         have hns22_1 := NB106_122.out
         have hns22_2 := NB112_122.out
         have hms22_0 := NB122_105.out
         have hms22_1 := NB122_106.out
         have hms22_2 := NB122_112.out
         have hs23 : w21.cell? ⟨gb122, 1, none⟩ = some (.int .u32 0) := (blk_cell BK122.out 1).trans rfl
         have hfs23 := blk_frozen BK122.out 1
         have hns23_0 := NB105_122.out
         have hns23_1 := NB106_122.out
         have hns23_2 := NB112_122.out
         have hms23_0 := NB122_105.out
         have hms23_1 := NB122_106.out
         have hms23_2 := NB122_112.out
         have hs24 : w21.cell? ⟨gb122, 2, none⟩ = some (.int .u32 0) := (blk_cell BK122.out 2).trans rfl
         have hfs24 := blk_frozen BK122.out 2
         have hns24_0 := NB105_122.out
         have hns24_1 := NB106_122.out
         have hns24_2 := NB112_122.out
         have hms24_0 := NB122_105.out
         have hms24_1 := NB122_106.out
         have hms24_2 := NB122_112.out
         have hs26 : w21.cell? ⟨gb122, 3, none⟩ = some (.slice none 0 0) := (blk_cell BK122.out 3).trans rfl
         have hfs26 := blk_frozen BK122.out 3
         have hns26_0 := NB105_122.out
         have hns26_1 := NB106_122.out
         have hns26_2 := NB112_122.out
         have hms26_0 := NB122_105.out
         have hms26_1 := NB122_106.out
         have hms26_2 := NB122_112.out
         refine skip_ (w1 := ?_) (by rfl) rfl ?_ ?_
         rotate_left
         ·go_simp
          rfl
         refine hK.out _ _ ⟨((cell_far (p := ⟨gb122, _, none⟩) NB112_122.out _).trans (((cell_far (p := ⟨gb122, _, none⟩) NB112_122.out _).trans (((cell_far (p := ⟨gb122, _, none⟩) NB112_122.out _).trans (((cell_far (p := ⟨gb122, _, none⟩) NB112_122.out _).trans (hHeld.1)))))))), ((cell_far (p := ⟨gb122, _, none⟩) NB112_122.out _).trans (((cell_far (p := ⟨gb122, _, none⟩) NB112_122.out _).trans (((cell_far (p := ⟨gb122, _, none⟩) NB112_122.out _).trans (((cell_far (p := ⟨gb122, _, none⟩) NB112_122.out _).trans (hHeld.2.1)))))))), ((cell_far (p := ⟨gb122, _, none⟩) NB112_122.out _).trans (((cell_far (p := ⟨gb122, _, none⟩) NB112_122.out _).trans (((cell_far (p := ⟨gb122, _, none⟩) NB112_122.out _).trans (((cell_far (p := ⟨gb122, _, none⟩) NB112_122.out _).trans (hHeld.2.2.1)))))))), ((cell_far (p := ⟨gb122, _, none⟩) NB112_122.out _).trans (((cell_far (p := ⟨gb122, _, none⟩) NB112_122.out _).trans (((cell_far (p := ⟨gb122, _, none⟩) NB112_122.out _).trans (((cell_far (p := ⟨gb122, _, none⟩) NB112_122.out _).trans (hHeld.2.2.2))))))))⟩ (fun hHeld => ?_)
         clear hK K
         refine pure_ (i := 12) (N := some 10) (v := ?_) (a' := ?_) #[true, true, true, true, true, true, true, true, true, true, true, true, true, false] rfl rfl (any_of HT_.out (by kernel_rfl)) (fun _ _ _ h => h) (Or.inl ⟨by rfl, ?_⟩) ?_ ?_
         rotate_left
         ·intro w'
          go_simp
          with_reducible rfl
         rotate_left
         ·simp only [Act.put, List.setIfInBounds_toArray, List.set_cons_zero, List.set_cons_succ, i64_w, i32_w]
          rfl
         refine pure_ (i := 13) (N := some 11) (v := ?_) (a' := ?_) #[true, true, true, true, true, true, true, true, true, true, true, true, true, true] rfl rfl (any_of HT_.out (by kernel_rfl)) (fun _ _ _ h => h) (Or.inl ⟨by rfl, ?_⟩) ?_ ?_
         rotate_left
         ·intro w'
          go_simp
          with_reducible rfl
         rotate_left
         ·simp only [Act.put, List.setIfInBounds_toArray, List.set_cons_zero, List.set_cons_succ, i64_w, i32_w]
          rfl
         refine done_ (done_of HT_.out (by kernel_rfl)) ?_
         have n0_ : Aside0 (Kd.S k51 51 ((((w21.setCell ⟨gb122, 0, none⟩ (.int .u32 t114)).setCell ⟨gb122, 1, none⟩ (.int .u32 t115)).setCell ⟨gb122, 2, none⟩ (.int .u32 t116)).setCell ⟨gb122, 3, none⟩ (.slice Ao25 t117.length co25)) w.heap.size (fun k_ => some k_ ≠ (.slice Ao25 t117.length co25 : Value).ownBlock ∧ k_ ≠ gb122) u7 x7_1) := ⟨by exact Kd.S_mono (Kd.S_far (p := ⟨gb122, 3, none⟩) (Kd.S_far (p := ⟨gb122, 2, none⟩) (Kd.S_far (p := ⟨gb122, 1, none⟩) (Kd.S_far (p := ⟨gb122, 0, none⟩) (Kd.S_mono HO_7.out (fun k_ hk => (⟨hk, hk.2⟩ : _ ∧ k_ ≠ gb122))) (fun _ hk => hk.2) (.int .u32 t114)) (fun _ hk => hk.2) (.int .u32 t115)) (fun _ hk => hk.2) (.int .u32 t116)) (fun _ hk => hk.2) (.slice Ao25 t117.length co25)) (fun _ hk => ⟨hk.1.1, hk.1.2⟩)⟩
         have n1_ : Aside0 (Kd.R (Kd.int .u8) 5 ((((w21.setCell ⟨gb122, 0, none⟩ (.int .u32 t114)).setCell ⟨gb122, 1, none⟩ (.int .u32 t115)).setCell ⟨gb122, 2, none⟩ (.int .u32 t116)).setCell ⟨gb122, 3, none⟩ (.slice Ao25 t117.length co25)) w.heap.size (fun _ => True) (.slice Ao25 t117.length co25) t117) := ⟨by exact Kd.R_mono (Kd.R_far (p := ⟨gb122, 3, none⟩) (Kd.R_far (p := ⟨gb122, 2, none⟩) (Kd.R_far (p := ⟨gb122, 1, none⟩) (Kd.R_far (p := ⟨gb122, 0, none⟩) (Kd.R_types HO119.out BK122.out (by decide)) (fun _ hk => hk.2) (.int .u32 t114)) (fun _ hk => hk.2) (.int .u32 t115)) (fun _ hk => hk.2) (.int .u32 t116)) (fun _ hk => hk.2) (.slice Ao25 t117.length co25)) (fun _ hk => trivial)⟩
         have n2_ : Aside0 (((((w21.setCell ⟨gb122, 0, none⟩ (.int .u32 t114)).setCell ⟨gb122, 1, none⟩ (.int .u32 t115)).setCell ⟨gb122, 2, none⟩ (.int .u32 t116)).setCell ⟨gb122, 3, none⟩ (.slice Ao25 t117.length co25)).heap[gb105]? = some (.cells #[.bool x106000_1, .bool x106001_1, .int .u32 x106002_1, .int .u32 x106003_1] 46 (0, 0))) := ⟨by refine blk_far ?_ NB105_122.out _; refine blk_far ?_ NB105_122.out _; refine blk_far ?_ NB105_122.out _; refine blk_far ?_ NB105_122.out _; exact BK105.out⟩
         have n3_ : Aside0 (((((w21.setCell ⟨gb122, 0, none⟩ (.int .u32 t114)).setCell ⟨gb122, 1, none⟩ (.int .u32 t115)).setCell ⟨gb122, 2, none⟩ (.int .u32 t116)).setCell ⟨gb122, 3, none⟩ (.slice Ao25 t117.length co25)).heap[gb106]? = some (.cells #[.int .i64 x107000_1, .int .i64 x107001_1] 30 (0, 0))) := ⟨by refine blk_far ?_ NB106_122.out _; refine blk_far ?_ NB106_122.out _; refine blk_far ?_ NB106_122.out _; refine blk_far ?_ NB106_122.out _; exact BK106.out⟩
         have n4_ : Aside0 (((((w21.setCell ⟨gb122, 0, none⟩ (.int .u32 t114)).setCell ⟨gb122, 1, none⟩ (.int .u32 t115)).setCell ⟨gb122, 2, none⟩ (.int .u32 t116)).setCell ⟨gb122, 3, none⟩ (.slice Ao25 t117.length co25)).heap[gb112]? = some (.cells #[.bool t107, .bool t108, .int .u32 t109, .int .u32 t110] 46 (0, 0))) := ⟨by refine blk_far ?_ NB112_122.out _; refine blk_far ?_ NB112_122.out _; refine blk_far ?_ NB112_122.out _; refine blk_far ?_ NB112_122.out _; exact BK112.out⟩
         have n5_ : Aside0 (((((w21.setCell ⟨gb122, 0, none⟩ (.int .u32 t114)).setCell ⟨gb122, 1, none⟩ (.int .u32 t115)).setCell ⟨gb122, 2, none⟩ (.int .u32 t116)).setCell ⟨gb122, 3, none⟩ (.slice Ao25 t117.length co25)).heap[gb122]? = some (.cells #[.int .u32 t114, .int .u32 t115, .int .u32 t116, .slice Ao25 t117.length co25] 51 (0, 0))) := ⟨by refine blk_put (cs := #[.int .u32 t114, .int .u32 t115, .int .u32 t116, .slice none 0 0]) ?_ 3 _ rfl; refine blk_put (cs := #[.int .u32 t114, .int .u32 t115, .int .u32 0, .slice none 0 0]) ?_ 2 _ rfl; refine blk_put (cs := #[.int .u32 t114, .int .u32 0, .int .u32 0, .slice none 0 0]) ?_ 1 _ rfl; refine blk_put (cs := #[.int .u32 0, .int .u32 0, .int .u32 0, .slice none 0 0]) ?_ 0 _ rfl; exact BK122.out⟩
         have n6_ : Aside0 (Below w.heap.size w ((((w21.setCell ⟨gb122, 0, none⟩ (.int .u32 t114)).setCell ⟨gb122, 1, none⟩ (.int .u32 t115)).setCell ⟨gb122, 2, none⟩ (.int .u32 t116)).setCell ⟨gb122, 3, none⟩ (.slice Ao25 t117.length co25))) := ⟨by repeat (with_reducible first | exact HB.out | refine below_set ?_ GE122.out)⟩
         (try clear HO_7)
         (try clear HO119)
         (try clear BK105)
         (try clear BK106)
         (try clear BK112)
         (try clear BK122)
         (try clear HB)
         generalize ((((w21.setCell ⟨gb122, 0, none⟩ (.int .u32 t114)).setCell ⟨gb122, 1, none⟩ (.int .u32 t115)).setCell ⟨gb122, 2, none⟩ (.int .u32 t116)).setCell ⟨gb122, 3, none⟩ (.slice Ao25 t117.length co25)) = w27 at n0_ n1_ n2_ n3_ n4_ n5_ n6_ ⊢
         have HO_7 := n0_
         have HO119 := n1_
         have BK105 := n2_
         have BK106 := n3_
         have BK112 := n4_
         have BK122 := n5_
         have HB := n6_
         clear n0_ n1_ n2_ n3_ n4_ n5_ n6_
         have hnb28 := NB122_105.out
         have hnc28 := NB105_122.out
         have hnb29 := NB122_106.out
         have hnc29 := NB106_122.out
         have hnb30 := NB122_112.out
         have hnc30 := NB112_122.out
         have hcz31_0 : w27.cell? ⟨gb122, 0, none⟩ = some (.int .u32 t114) := (blk_cell BK122.out 0).trans rfl
         have hcz31_1 : w27.cell? ⟨gb122, 1, none⟩ = some (.int .u32 t115) := (blk_cell BK122.out 1).trans rfl
         have hcz31_2 : w27.cell? ⟨gb122, 2, none⟩ = some (.int .u32 t116) := (blk_cell BK122.out 2).trans rfl
         have hcz31_3 : w27.cell? ⟨gb122, 3, none⟩ = some (.slice Ao25 t117.length co25) := (blk_cell BK122.out 3).trans rfl
         have hfz31_0 := blk_frozen BK122.out 0
         have hfz31_1 := blk_frozen BK122.out 1
         have hfz31_2 := blk_frozen BK122.out 2
         have hfz31_3 := blk_frozen BK122.out 3
         try go_wp2_with (first | ((with_reducible refine gate_builtin (b := .append) (xs := #[.tmp 43, .tmp 45]) rfl ?_); at_builtin; refine Kd.S_append k51 (w0 := w) w.heap.size rfl (.tmp 43) (.tmp 45) 47 51 (.agg #[(.int .u32 0), (.int .u32 0), (.int .u32 0), (.slice none 0 0)]) 40 rfl Tryd.underlying47 info51 rfl (by decide) (by omega) u7 x7_1 (⟨t114, t115, t116, t117⟩ : S51) [.int .u32 t114, .int .u32 t115, .int .u32 t116, .slice Ao25 t117.length co25] (fun k_ => k_ ≠ gb122) (fun k_ => some k_ = (.slice Ao25 t117.length co25 : Value).ownBlock) rfl rfl ?aP (fun k_ hk_ => ((Kd.R_mono (ok' := fun k_ => (fun k_ => k_ ≠ gb122) k_ ∧ some k_ ≠ (u7 : Value).ownBlock) (Kd.R_types (Kd.R_apart' (HO119.out) (Kd.S_typed HO_7.out) (by decide)) BK122.out (by decide)) (fun k_ hk => ⟨hk.2, hk.1.2⟩))).1 k_ hk_.symm) ?aF ?aO ?aB ?aS ?aL ?_; (case aP => exact k51_mkM _ _ _ (⟨t114, t115, t116, t117⟩ : S51) (Kd.R_mono (Kd.R_tight rfl (Kd.R_mono (ok' := fun k_ => (fun k_ => k_ ≠ gb122) k_ ∧ some k_ ≠ (u7 : Value).ownBlock) (Kd.R_types (Kd.R_apart' (HO119.out) (Kd.S_typed HO_7.out) (by decide)) BK122.out (by decide)) (fun k_ hk => ⟨hk.2, hk.1.2⟩))) (fun _ h_ => h_))); (case aB => exact HB.out); (case aF => exact (fun k_ hk => Kd.freshB BK122.out k_ hk)); (case aO => exact (by exact Kd.S_mono HO_7.out (fun k_ hk => ⟨hk.2, fun e_ => hk.1 e_⟩))); (case aS => exact (below_size HB.out)); (case aL => have := LMc16.out; omega); intro v124 w32 ho hb hg hat; rw [← Ny123.out] at ho; have HO125 := Aside0.mk (ho); replace BK105 := Aside0.mk (blk_grown BK105.out hg (Kd.S_ne HO_7.out BK105.out (by decide))); replace BK106 := Aside0.mk (blk_grown BK106.out hg (Kd.S_ne HO_7.out BK106.out (by decide))); replace BK112 := Aside0.mk (blk_grown BK112.out hg (Kd.S_ne HO_7.out BK112.out (by decide))); replace BK122 := Aside0.mk (blk_grown BK122.out hg (Kd.S_away HO_7.out (fun _ hk => hk.2))); replace HB := Aside0.mk (hb); clear HO_7; clear HO119; clear ho hb hg hat))
         go_roundg k1
         case measure => have := HK1.out; omega
         case rel => exact ⟨(y123), (wrap64 (x8_1 + t120)), (x106000_1), (x106001_1), (x106002_1), (x106003_1), (x107000_1), (x107001_1), (by (rfl)), H', ⟨by have := HK1.out; omega⟩, ⟨by exact Kd.S_mono HO125.out (fun _ hk => trivial)⟩, ⟨by exact BK105.out⟩, ⟨by exact BK106.out⟩, ⟨by exact BK112.out⟩, ⟨by exact HB.out⟩⟩
        ·rw [if_neg c16] at H
         exact absurd H (by simp)
       ·rw [if_neg c15] at H
        have c15b0 : (t121 == 0) = false := beq_eq_false_iff_ne.mpr c15
        have c15b1 : (t121 != 0) = true := bne_iff_ne.mpr c15
        simp only [Option.some.injEq, Prod.mk.injEq] at H
        obtain ⟨rfl, rfl, rfl, rfl, rfl, rfl, rfl⟩ := H
        try go_wp2
        replace HO_7 := Aside0.mk (Kd.S_drew HO_7.out)
        replace BK105 := Aside0.mk (blk_drew BK105.out)
        replace BK106 := Aside0.mk (blk_drew BK106.out)
        replace BK112 := Aside0.mk (blk_drew BK112.out)
        replace HB := Aside0.mk (below_drew1 HB.out)
        obtain ⟨i034, hi034, _, hsz34, _⟩ := info_parts info5
        obtain ⟨A34, hcut34, hA34, hC34⟩ := print_drop_of (P := Tryd.prog) (Value.int .u8) 0 22 5 .i64 Tryd.underlying22 hi034 hsz34 A0 c0 l0 x8_1 (of_decide_eq_true (by (with_reducible assumption))) (of_decide_eq_true (by (with_reducible assumption))) HC0.out
        have HR113 := Aside0.mk (Kd.C_of_reads (h1 := fun _ => rfl) (hA34 _ (Kd.reads_of_C HR0.out)))
        have HC113 := Aside0.mk hC34
        clear hA34 hC34 hi034 hsz34
        refine start_ (n := 14) (S := fun w' => w'.cell? ⟨gb112, 0, none⟩ = some (.bool t107) ∧ w'.cell? ⟨gb112, 1, none⟩ = some (.bool t108) ∧ w'.cell? ⟨gb112, 2, none⟩ = some (.int .u32 t109) ∧ w'.cell? ⟨gb112, 3, none⟩ = some (.int .u32 t110)) (ds := []) #[false, false, false, false, false, false, false, false, false, false, false, false, false, false] (by kernel_rfl) rfl rfl ⟨(blk_cell BK112.out 0).trans rfl, (blk_cell BK112.out 1).trans rfl, (blk_cell BK112.out 2).trans rfl, (blk_cell BK112.out 3).trans rfl⟩ (fun hHeld => ?_); refine with_tabW pcap_Read.tab7 pcap_Read.bits7 (fun HT_ HW_ => ?_)
        generalize wr.drew = w33 at HO_7 BK105 BK106 BK112 HB HR113 hHeld ⊢
        refine pure_ (i := 0) (N := some 27) (v := ?_) (a' := ?_) #[true, false, false, false, false, false, false, false, false, false, false, false, false, false] rfl rfl (any_of HT_.out (by kernel_rfl)) (fun _ _ _ h => h) (Or.inl ⟨by rfl, ?_⟩) ?_ ?_
        rotate_left
        ·intro w'
         go_simp
         with_reducible rfl
        rotate_left
        ·simp only [Act.put, List.setIfInBounds_toArray, List.set_cons_zero, List.set_cons_succ, i64_w, i32_w]
         rfl
        refine pure_ (i := 1) (N := some 28) (v := ?_) (a' := ?_) #[true, true, false, false, false, false, false, false, false, false, false, false, false, false] rfl rfl (any_of HT_.out (by kernel_rfl)) (fun _ _ _ h => h) (Or.inl ⟨by rfl, ?_⟩) ?_ ?_
        rotate_left
        ·intro w'
         go_simp
         with_reducible rfl
        rotate_left
        ·simp only [Act.put, List.setIfInBounds_toArray, List.set_cons_zero, List.set_cons_succ, i64_w, i32_w]
         rfl
        refine pure_ (i := 2) (N := some 29) (v := ?_) (a' := ?_) #[true, true, true, false, false, false, false, false, false, false, false, false, false, false] rfl rfl (any_of HT_.out (by kernel_rfl)) (fun _ _ _ h => h) (Or.inl ⟨by rfl, ?_⟩) ?_ ?_
        rotate_left
        ·intro w'
         go_simp
         with_reducible rfl
        rotate_left
        ·simp only [Act.put, List.setIfInBounds_toArray, List.set_cons_zero, List.set_cons_succ, i64_w, i32_w]
         rfl
        refine pure_ (i := 3) (N := some 30) (v := ?_) (a' := ?_) #[true, true, true, true, false, false, false, false, false, false, false, false, false, false] rfl rfl (any_of HT_.out (by kernel_rfl)) (fun _ _ _ h => h) (Or.inl ⟨by rfl, ?_⟩) ?_ ?_
        rotate_left
        ·intro w'
         go_simp
         with_reducible rfl
        rotate_left
        ·simp only [Act.put, List.setIfInBounds_toArray, List.set_cons_zero, List.set_cons_succ, i64_w, i32_w]
         rfl
        refine take_ (i := 4) (N := some 31) (v := ?_) (a' := ?_) #[true, true, true, true, true, false, false, false, false, false, false, false, false, false] rfl rfl (take_ofW HT_.out HW_.out (by kernel_rfl)) (fun _ _ _ h => h) (Or.inl ⟨by rfl, ?_⟩) hHeld ?_ ?_
        rotate_left
        ·rintro w' ⟨s0, s1, s2, s3⟩
         go_simp
         with_reducible rfl
        rotate_left
        ·simp only [Act.put, List.setIfInBounds_toArray, List.set_cons_zero, List.set_cons_succ, i64_w, i32_w]
         rfl
        refine join_ (σ := Value × Nat) 3 #[true, true, true, true, true, true, true, true, true, true, true, false, false, false] (fun s_ => [(32, .tuple #[.agg #[.int .u32 t114, .int .u32 t115, .int .u32 t116, s_.1], .int .i64 t120, .int .i64 t121]), (9, .pointer (some ⟨s_.2, 0, none⟩)), (26, .tuple #[.agg #[.int .u32 t114, .int .u32 t115, .int .u32 t116, s_.1], .int .i64 t120, .int .i64 t121]), (33, .agg #[.int .u32 t114, .int .u32 t115, .int .u32 t116, s_.1]), (34, .int .i64 t120), (35, .int .i64 t121)]) (fun s_ w' => (w'.cell? ⟨gb112, 0, none⟩ = some (.bool t107) ∧ w'.cell? ⟨gb112, 1, none⟩ = some (.bool t108) ∧ w'.cell? ⟨gb112, 2, none⟩ = some (.int .u32 t109) ∧ w'.cell? ⟨gb112, 3, none⟩ = some (.int .u32 t110)) ∧ (Kd.R (Kd.int .u8) 5 w' w.heap.size (fun _ => True) s_.1 t117) ∧ (Kd.S k51 51 w' w.heap.size (fun k_ => some k_ ≠ (s_.1 : Value).ownBlock ∧ k_ ≠ s_.2) u7 x7_1) ∧ (w'.heap[gb105]? = some (.cells #[.bool x106000_1, .bool x106001_1, .int .u32 x106002_1, .int .u32 x106003_1] 46 (0, 0))) ∧ (w'.heap[gb106]? = some (.cells #[.int .i64 x107000_1, .int .i64 x107001_1] 30 (0, 0))) ∧ (w'.heap[gb112]? = some (.cells #[.bool t107, .bool t108, .int .u32 t109, .int .u32 t110] 46 (0, 0))) ∧ (w'.heap[s_.2]? = some (.cells #[.int .u32 0, .int .u32 0, .int .u32 0, .slice none 0 0] 51 (0, 0))) ∧ (w.heap.size ≤ s_.2) ∧ (w.heap.size ≤ s_.2) ∧ (gb105 ≠ s_.2) ∧ (s_.2 ≠ gb105) ∧ (gb106 ≠ s_.2) ∧ (s_.2 ≠ gb106) ∧ (gb112 ≠ s_.2) ∧ (s_.2 ≠ gb112) ∧ (Below w.heap.size w w')) ?_ ?_
        rotate_left
        ·intro hCont
         refine two_ (i := 5) (j := 10) (Ni := some 32) (Nj := some 9) #[true, true, true, true, true, true, false, false, false, false, false, false, false, false] #[true, true, true, true, true, false, false, false, false, false, true, false, false, false] rfl rfl rfl rfl (two_of HT_.out (by kernel_rfl)) (by decide) (by decide) (fun K hK => ?_) (fun K hK => ?_)
         ·skip
          refine goes_ Tryd.func62 (by kernel_rfl) rfl #[.slice A34 (l0.drop (x8_1 : Int).toNat).length (c0 - x8_1.toNat), .bool t107] (by rfl) rfl rfl (by (try simp only [List.map_toArray, List.map_cons, List.map_nil]); (rw [show (l0.drop (x8_1 : Int).toNat).length = (l0.length - x8_1.toNat) from List.length_drop] <;> rfl)) ?_
          with_reducible refine (pcap_Next.calls k1 _ _ (l0.drop (x8_1 : Int).toNat) t107 t114 t115 t116 t117 t120 t121 _ ?side1 ?side2 A14.out).mono ?_
          (case side1 => exact (Kd.C_below HR113.out HB.out))
          (case side2 => exact HC113.out)
          rintro e w35 ⟨v118, rfl, ho0, hb⟩
          refine ⟨_, rfl, ?_⟩
          have HO119 := Aside0.mk (Kd.R_lower ho0 (below_size HB.out))
          replace HO_7 := Aside0.mk (Kd.S_elder' HO_7.out (by (exact Kd.R_base ho0)) hb)
          replace BK105 := Aside0.mk (blk_below BK105.out hb)
          replace BK106 := Aside0.mk (blk_below BK106.out hb)
          replace BK112 := Aside0.mk (blk_below BK112.out hb)
          replace HB := Aside0.mk (below_step HB.out hb)
          (try clear hb)
          (skip)
          (skip)
          (skip)
          (try clear ho0)
          refine hK.out _ _ ⟨(blk_cell BK112.out 0).trans rfl, (blk_cell BK112.out 1).trans rfl, (blk_cell BK112.out 2).trans rfl, (blk_cell BK112.out 3).trans rfl⟩ (fun hHeld => ?_)
          clear hK K
          refine norm_ (a' := ?_) ?_ ?_
          rotate_left
          ·show Act.put _ (some 32) _ = _
           simp only [Act.put, List.setIfInBounds_toArray, List.set_cons_zero, List.set_cons_succ, i64_w, i32_w]
           rfl
          refine pure_ (i := 6) (N := some 26) (v := ?_) (a' := ?_) #[true, true, true, true, true, true, true, false, false, false, false, false, false, false] rfl rfl (any_of HT_.out (by kernel_rfl)) (fun _ _ _ h => h) (Or.inl ⟨by rfl, ?_⟩) ?_ ?_
          rotate_left
          ·intro w'
           go_simp
           with_reducible rfl
          rotate_left
          ·simp only [Act.put, List.setIfInBounds_toArray, List.set_cons_zero, List.set_cons_succ, i64_w, i32_w]
           rfl
          refine pure_ (i := 7) (N := some 33) (v := ?_) (a' := ?_) #[true, true, true, true, true, true, true, true, false, false, false, false, false, false] rfl rfl (any_of HT_.out (by kernel_rfl)) (fun _ _ _ h => h) (Or.inl ⟨by rfl, ?_⟩) ?_ ?_
          rotate_left
          ·intro w'
           go_simp
           with_reducible rfl
          rotate_left
          ·simp only [Act.put, List.setIfInBounds_toArray, List.set_cons_zero, List.set_cons_succ, i64_w, i32_w]
           rfl
          refine pure_ (i := 8) (N := some 34) (v := ?_) (a' := ?_) #[true, true, true, true, true, true, true, true, true, false, false, false, false, false] rfl rfl (any_of HT_.out (by kernel_rfl)) (fun _ _ _ h => h) (Or.inl ⟨by rfl, ?_⟩) ?_ ?_
          rotate_left
          ·intro w'
           go_simp
           with_reducible rfl
          rotate_left
          ·simp only [Act.put, List.setIfInBounds_toArray, List.set_cons_zero, List.set_cons_succ, i64_w, i32_w]
           rfl
          refine pure_ (i := 9) (N := some 35) (v := ?_) (a' := ?_) #[true, true, true, true, true, true, true, true, true, true, false, false, false, false] rfl rfl (any_of HT_.out (by kernel_rfl)) (fun _ _ _ h => h) (Or.inl ⟨by rfl, ?_⟩) ?_ ?_
          rotate_left
          ·intro w'
           go_simp
           with_reducible rfl
          rotate_left
          ·simp only [Act.put, List.setIfInBounds_toArray, List.set_cons_zero, List.set_cons_succ, i64_w, i32_w]
           rfl
          refine one_ (i := 10) (N := some 9) #[true, true, true, true, true, true, true, true, true, true, true, false, false, false] rfl rfl (one_of HT_.out (by kernel_rfl)) (by decide) (fun K hK => ?_)
          refine box_step ?hg (N := 9) ?hd (cs := #[.int .u32 0, .int .u32 0, .int .u32 0, .slice none 0 0]) (t := 51) ?hr ?_; (case hd => rfl); (case hg => rfl); (case hr => (go_simp; done))
          intro gb122 hg w36 hbox hb
          have BK122 := Aside0.mk (hbox)
          have GW122 := Aside0.mk ((by rw [hg]; exact (below_size HB.out) : w.heap.size ≤ gb122))
          have GE122 := Aside0.mk ((by rw [hg]; exact (below_size HB.out) : w.heap.size ≤ gb122))
          have NB105_122 := Aside0.mk ((by rw [hg]; exact Nat.ne_of_lt (blk_lt BK105.out) : gb105 ≠ gb122))
          have NB122_105 := Aside0.mk ((by rw [hg]; exact Nat.ne_of_gt (blk_lt BK105.out) : gb122 ≠ gb105))
          have NB106_122 := Aside0.mk ((by rw [hg]; exact Nat.ne_of_lt (blk_lt BK106.out) : gb106 ≠ gb122))
          have NB122_106 := Aside0.mk ((by rw [hg]; exact Nat.ne_of_gt (blk_lt BK106.out) : gb122 ≠ gb106))
          have NB112_122 := Aside0.mk ((by rw [hg]; exact Nat.ne_of_lt (blk_lt BK112.out) : gb112 ≠ gb122))
          have NB122_112 := Aside0.mk ((by rw [hg]; exact Nat.ne_of_gt (blk_lt BK112.out) : gb122 ≠ gb112))
          replace HO_7 := Aside0.mk (Kd.S_below (Kd.S_elderB HO_7.out gb122 (Nat.le_of_eq hg.symm)) hb)
          replace HO119 := Aside0.mk (Kd.R_below HO119.out hb)
          replace BK105 := Aside0.mk (blk_below BK105.out hb)
          replace BK106 := Aside0.mk (blk_below BK106.out hb)
          replace BK112 := Aside0.mk (blk_below BK112.out hb)
          replace HB := Aside0.mk (below_step HB.out hb)
          clear hb hbox hg
          refine hK.out _ _ ⟨(blk_cell BK112.out 0).trans rfl, (blk_cell BK112.out 1).trans rfl, (blk_cell BK112.out 2).trans rfl, (blk_cell BK112.out 3).trans rfl⟩ (fun hHeld => ?_)
          clear hK K
          refine norm_ (a' := ?_) ?_ ?_
          rotate_left
          ·show Act.put _ (some 9) _ = _
           simp only [Act.put, List.setIfInBounds_toArray, List.set_cons_zero, List.set_cons_succ, i64_w, i32_w]
           rfl
          exact norm_ (by simp only [putAll, Act.put, List.setIfInBounds_toArray, List.set_cons_zero, List.set_cons_succ]) (hCont (v118, gb122) _ ⟨hHeld, HO119.out, (by exact Kd.S_mono HO_7.out (fun _ hk => ⟨hk.1.2, hk.2⟩)), BK105.out, BK106.out, BK112.out, BK122.out, GW122.out, GE122.out, NB105_122.out, NB122_105.out, NB106_122.out, NB122_106.out, NB112_122.out, NB122_112.out, HB.out⟩)
         ·skip
          refine box_step ?hg (N := 9) ?hd (cs := #[.int .u32 0, .int .u32 0, .int .u32 0, .slice none 0 0]) (t := 51) ?hr ?_; (case hd => rfl); (case hg => rfl); (case hr => (go_simp; done))
          intro gb122 hg w35 hbox hb
          have BK122 := Aside0.mk (hbox)
          have GW122 := Aside0.mk ((by rw [hg]; exact (below_size HB.out) : w.heap.size ≤ gb122))
          have GE122 := Aside0.mk ((by rw [hg]; exact (below_size HB.out) : w.heap.size ≤ gb122))
          have NB105_122 := Aside0.mk ((by rw [hg]; exact Nat.ne_of_lt (blk_lt BK105.out) : gb105 ≠ gb122))
          have NB122_105 := Aside0.mk ((by rw [hg]; exact Nat.ne_of_gt (blk_lt BK105.out) : gb122 ≠ gb105))
          have NB106_122 := Aside0.mk ((by rw [hg]; exact Nat.ne_of_lt (blk_lt BK106.out) : gb106 ≠ gb122))
          have NB122_106 := Aside0.mk ((by rw [hg]; exact Nat.ne_of_gt (blk_lt BK106.out) : gb122 ≠ gb106))
          have NB112_122 := Aside0.mk ((by rw [hg]; exact Nat.ne_of_lt (blk_lt BK112.out) : gb112 ≠ gb122))
          have NB122_112 := Aside0.mk ((by rw [hg]; exact Nat.ne_of_gt (blk_lt BK112.out) : gb122 ≠ gb112))
          replace HO_7 := Aside0.mk (Kd.S_below (Kd.S_elderB HO_7.out gb122 (Nat.le_of_eq hg.symm)) hb)
          replace BK105 := Aside0.mk (blk_below BK105.out hb)
          replace BK106 := Aside0.mk (blk_below BK106.out hb)
          replace BK112 := Aside0.mk (blk_below BK112.out hb)
          replace HB := Aside0.mk (below_step HB.out hb)
          clear hb hbox hg
          refine hK.out _ _ ⟨(blk_cell BK112.out 0).trans rfl, (blk_cell BK112.out 1).trans rfl, (blk_cell BK112.out 2).trans rfl, (blk_cell BK112.out 3).trans rfl⟩ (fun hHeld => ?_)
          clear hK K
          refine norm_ (a' := ?_) ?_ ?_
          rotate_left
          ·show Act.put _ (some 9) _ = _
           simp only [Act.put, List.setIfInBounds_toArray, List.set_cons_zero, List.set_cons_succ, i64_w, i32_w]
           rfl
          refine one_ (i := 5) (N := some 32) #[true, true, true, true, true, true, false, false, false, false, true, false, false, false] rfl rfl (one_of HT_.out (by kernel_rfl)) (by decide) (fun K hK => ?_)
          refine goes_ Tryd.func62 (by kernel_rfl) rfl #[.slice A34 (l0.drop (x8_1 : Int).toNat).length (c0 - x8_1.toNat), .bool t107] (by rfl) rfl rfl (by (try simp only [List.map_toArray, List.map_cons, List.map_nil]); (rw [show (l0.drop (x8_1 : Int).toNat).length = (l0.length - x8_1.toNat) from List.length_drop] <;> rfl)) ?_
          with_reducible refine (pcap_Next.calls k1 _ _ (l0.drop (x8_1 : Int).toNat) t107 t114 t115 t116 t117 t120 t121 _ ?side1 ?side2 A14.out).mono ?_
          (case side1 => exact (Kd.C_below HR113.out HB.out))
          (case side2 => exact HC113.out)
          rintro e w36 ⟨v118, rfl, ho0, hb⟩
          refine ⟨_, rfl, ?_⟩
          have HO119 := Aside0.mk (Kd.R_lower ho0 (below_size HB.out))
          replace HO_7 := Aside0.mk (Kd.S_elder' HO_7.out (by (exact Kd.R_base ho0)) hb)
          replace BK105 := Aside0.mk (blk_below BK105.out hb)
          replace BK106 := Aside0.mk (blk_below BK106.out hb)
          replace BK112 := Aside0.mk (blk_below BK112.out hb)
          replace BK122 := Aside0.mk (blk_below BK122.out hb)
          replace HB := Aside0.mk (below_step HB.out hb)
          (try clear hb)
          (skip)
          (skip)
          (skip)
          (try clear ho0)
          refine hK.out _ _ ⟨(blk_cell BK112.out 0).trans rfl, (blk_cell BK112.out 1).trans rfl, (blk_cell BK112.out 2).trans rfl, (blk_cell BK112.out 3).trans rfl⟩ (fun hHeld => ?_)
          clear hK K
          refine norm_ (a' := ?_) ?_ ?_
          rotate_left
          ·show Act.put _ (some 32) _ = _
           simp only [Act.put, List.setIfInBounds_toArray, List.set_cons_zero, List.set_cons_succ, i64_w, i32_w]
           rfl
          refine pure_ (i := 6) (N := some 26) (v := ?_) (a' := ?_) #[true, true, true, true, true, true, true, false, false, false, true, false, false, false] rfl rfl (any_of HT_.out (by kernel_rfl)) (fun _ _ _ h => h) (Or.inl ⟨by rfl, ?_⟩) ?_ ?_
          rotate_left
          ·intro w'
           go_simp
           with_reducible rfl
          rotate_left
          ·simp only [Act.put, List.setIfInBounds_toArray, List.set_cons_zero, List.set_cons_succ, i64_w, i32_w]
           rfl
          refine pure_ (i := 7) (N := some 33) (v := ?_) (a' := ?_) #[true, true, true, true, true, true, true, true, false, false, true, false, false, false] rfl rfl (any_of HT_.out (by kernel_rfl)) (fun _ _ _ h => h) (Or.inl ⟨by rfl, ?_⟩) ?_ ?_
          rotate_left
          ·intro w'
           go_simp
           with_reducible rfl
          rotate_left
          ·simp only [Act.put, List.setIfInBounds_toArray, List.set_cons_zero, List.set_cons_succ, i64_w, i32_w]
           rfl
          refine pure_ (i := 8) (N := some 34) (v := ?_) (a' := ?_) #[true, true, true, true, true, true, true, true, true, false, true, false, false, false] rfl rfl (any_of HT_.out (by kernel_rfl)) (fun _ _ _ h => h) (Or.inl ⟨by rfl, ?_⟩) ?_ ?_
          rotate_left
          ·intro w'
           go_simp
           with_reducible rfl
          rotate_left
          ·simp only [Act.put, List.setIfInBounds_toArray, List.set_cons_zero, List.set_cons_succ, i64_w, i32_w]
           rfl
          refine pure_ (i := 9) (N := some 35) (v := ?_) (a' := ?_) #[true, true, true, true, true, true, true, true, true, true, true, false, false, false] rfl rfl (any_of HT_.out (by kernel_rfl)) (fun _ _ _ h => h) (Or.inl ⟨by rfl, ?_⟩) ?_ ?_
          rotate_left
          ·intro w'
           go_simp
           with_reducible rfl
          rotate_left
          ·simp only [Act.put, List.setIfInBounds_toArray, List.set_cons_zero, List.set_cons_succ, i64_w, i32_w]
           rfl
          exact norm_ (by simp only [putAll, Act.put, List.setIfInBounds_toArray, List.set_cons_zero, List.set_cons_succ]) (hCont (v118, gb122) _ ⟨hHeld, HO119.out, (by exact Kd.S_mono HO_7.out (fun _ hk => ⟨hk.2, hk.1.2⟩)), BK105.out, BK106.out, BK112.out, BK122.out, GW122.out, GE122.out, NB105_122.out, NB122_105.out, NB106_122.out, NB122_106.out, NB112_122.out, NB122_112.out, HB.out⟩)
        rintro ⟨v118, gb122⟩ w37 ⟨hS_, h0_, h1_, h2_, h3_, h4_, h5_, h6_, h7_, h8_, h9_, h10_, h11_, h12_, h13_, h14_⟩
        have n0_ : Aside0 (Kd.R (Kd.int .u8) 5 w37 w.heap.size (fun _ => True) v118 t117) := ⟨h0_⟩
        have n1_ : Aside0 (Kd.S k51 51 w37 w.heap.size (fun k_ => some k_ ≠ (v118 : Value).ownBlock ∧ k_ ≠ gb122) u7 x7_1) := ⟨h1_⟩
        have n2_ : Aside0 (w37.heap[gb105]? = some (.cells #[.bool x106000_1, .bool x106001_1, .int .u32 x106002_1, .int .u32 x106003_1] 46 (0, 0))) := ⟨h2_⟩
        have n3_ : Aside0 (w37.heap[gb106]? = some (.cells #[.int .i64 x107000_1, .int .i64 x107001_1] 30 (0, 0))) := ⟨h3_⟩
        have n4_ : Aside0 (w37.heap[gb112]? = some (.cells #[.bool t107, .bool t108, .int .u32 t109, .int .u32 t110] 46 (0, 0))) := ⟨h4_⟩
        have n5_ : Aside0 (w37.heap[gb122]? = some (.cells #[.int .u32 0, .int .u32 0, .int .u32 0, .slice none 0 0] 51 (0, 0))) := ⟨h5_⟩
        have n6_ : Aside0 (w.heap.size ≤ gb122) := ⟨h6_⟩
        have n7_ : Aside0 (w.heap.size ≤ gb122) := ⟨h7_⟩
        have n8_ : Aside0 (gb105 ≠ gb122) := ⟨h8_⟩
        have n9_ : Aside0 (gb122 ≠ gb105) := ⟨h9_⟩
        have n10_ : Aside0 (gb106 ≠ gb122) := ⟨h10_⟩
        have n11_ : Aside0 (gb122 ≠ gb106) := ⟨h11_⟩
        have n12_ : Aside0 (gb112 ≠ gb122) := ⟨h12_⟩
        have n13_ : Aside0 (gb122 ≠ gb112) := ⟨h13_⟩
        have n14_ : Aside0 (Below w.heap.size w w37) := ⟨h14_⟩
        clear HO_7
        clear BK105
        clear BK106
        clear BK112
        clear HB
        clear h0_ h1_ h2_ h3_ h4_ h5_ h6_ h7_ h8_ h9_ h10_ h11_ h12_ h13_ h14_
        have HO119 := n0_
        have HO_7 := n1_
        have BK105 := n2_
        have BK106 := n3_
        have BK112 := n4_
        have BK122 := n5_
        have GW122 := n6_
        have GE122 := n7_
        have NB105_122 := n8_
        have NB122_105 := n9_
        have NB106_122 := n10_
        have NB122_106 := n11_
        have NB112_122 := n12_
        have NB122_112 := n13_
        have HB := n14_
        clear n0_ n1_ n2_ n3_ n4_ n5_ n6_ n7_ n8_ n9_ n10_ n11_ n12_ n13_ n14_
        have hHeld : w37.cell? ⟨gb112, 0, none⟩ = some (.bool t107) ∧ w37.cell? ⟨gb112, 1, none⟩ = some (.bool t108) ∧ w37.cell? ⟨gb112, 2, none⟩ = some (.int .u32 t109) ∧ w37.cell? ⟨gb112, 3, none⟩ = some (.int .u32 t110) := hS_
        obtain ⟨Ao41, co41, eo41⟩ := Kd.R_slice HO119.out
        (subst eo41)
        refine norm_ (a' := ?_) ?_ ?_
        rotate_left
        ·simp only [putAll, Act.put, List.setIfInBounds_toArray, List.set_cons_zero, List.set_cons_succ]
         rfl
        refine one_ (i := 11) (N := none) #[true, true, true, true, true, true, true, true, true, true, true, true, false, false] rfl rfl (one_of HT_.out (by kernel_rfl)) (by decide) (fun K hK => ?_)
        have hs38 : w37.cell? ⟨gb122, 0, none⟩ = some (.int .u32 0) := (blk_cell BK122.out 0).trans rfl
        have hfs38 := blk_frozen BK122.out 0
        have hns38_0 := NB105_122.out
        have hns38_1 := NB106_122.out
        have hns38_2 := NB112_122.out
        have hms38_0 := NB122_105.out
        have hms38_1 := NB122_106.out
        have hms38_2 := NB122_112.out
        have hs39 : w37.cell? ⟨gb122, 1, none⟩ = some (.int .u32 0) := (blk_cell BK122.out 1).trans rfl
        have hfs39 := blk_frozen BK122.out 1
        have hns39_0 := NB105_122.out
        have hns39_1 := NB106_122.out
        have hns39_2 := NB112_122.out
        have hms39_0 := NB122_105.out
        have hms39_1 := NB122_106.out
        have hms39_2 := NB122_112.out
        have hs40 : w37.cell? ⟨gb122, 2, none⟩ = some (.int .u32 0) := (blk_cell BK122.out 2).trans rfl
        have hfs40 := blk_frozen BK122.out 2
        have hns40_0 := NB105_122.out
        have hns40_1 := NB106_122.out
        have hns40_2 := NB112_122.out
        have hms40_0 := NB122_105.out
        have hms40_1 := NB122_106.out
        have hms40_2 := NB122_112.out
        have hs42 : w37.cell? ⟨gb122, 3, none⟩ = some (.slice none 0 0) := (blk_cell BK122.out 3).trans rfl
        have hfs42 := blk_frozen BK122.out 3
        have hns42_0 := NB105_122.out
        have hns42_1 := NB106_122.out
        have hns42_2 := NB112_122.out
        have hms42_0 := NB122_105.out
        have hms42_1 := NB122_106.out
        have hms42_2 := NB122_112.out
        refine skip_ (w1 := ?_) (by rfl) rfl ?_ ?_
        rotate_left
        ·go_simp
         rfl
        refine hK.out _ _ ⟨((cell_far (p := ⟨gb122, _, none⟩) NB112_122.out _).trans (((cell_far (p := ⟨gb122, _, none⟩) NB112_122.out _).trans (((cell_far (p := ⟨gb122, _, none⟩) NB112_122.out _).trans (((cell_far (p := ⟨gb122, _, none⟩) NB112_122.out _).trans (hHeld.1)))))))), ((cell_far (p := ⟨gb122, _, none⟩) NB112_122.out _).trans (((cell_far (p := ⟨gb122, _, none⟩) NB112_122.out _).trans (((cell_far (p := ⟨gb122, _, none⟩) NB112_122.out _).trans (((cell_far (p := ⟨gb122, _, none⟩) NB112_122.out _).trans (hHeld.2.1)))))))), ((cell_far (p := ⟨gb122, _, none⟩) NB112_122.out _).trans (((cell_far (p := ⟨gb122, _, none⟩) NB112_122.out _).trans (((cell_far (p := ⟨gb122, _, none⟩) NB112_122.out _).trans (((cell_far (p := ⟨gb122, _, none⟩) NB112_122.out _).trans (hHeld.2.2.1)))))))), ((cell_far (p := ⟨gb122, _, none⟩) NB112_122.out _).trans (((cell_far (p := ⟨gb122, _, none⟩) NB112_122.out _).trans (((cell_far (p := ⟨gb122, _, none⟩) NB112_122.out _).trans (((cell_far (p := ⟨gb122, _, none⟩) NB112_122.out _).trans (hHeld.2.2.2))))))))⟩ (fun hHeld => ?_)
        clear hK K
        refine pure_ (i := 12) (N := some 10) (v := ?_) (a' := ?_) #[true, true, true, true, true, true, true, true, true, true, true, true, true, false] rfl rfl (any_of HT_.out (by kernel_rfl)) (fun _ _ _ h => h) (Or.inl ⟨by rfl, ?_⟩) ?_ ?_
        rotate_left
        ·intro w'
         go_simp
         with_reducible rfl
        rotate_left
        ·simp only [Act.put, List.setIfInBounds_toArray, List.set_cons_zero, List.set_cons_succ, i64_w, i32_w]
         rfl
        refine pure_ (i := 13) (N := some 11) (v := ?_) (a' := ?_) #[true, true, true, true, true, true, true, true, true, true, true, true, true, true] rfl rfl (any_of HT_.out (by kernel_rfl)) (fun _ _ _ h => h) (Or.inl ⟨by rfl, ?_⟩) ?_ ?_
        rotate_left
        ·intro w'
         go_simp
         with_reducible rfl
        rotate_left
        ·simp only [Act.put, List.setIfInBounds_toArray, List.set_cons_zero, List.set_cons_succ, i64_w, i32_w]
         rfl
        refine done_ (done_of HT_.out (by kernel_rfl)) ?_
        have hnb43 := NB112_105.out
        have hnc43 := NB105_112.out
        have hnb44 := NB112_106.out
        have hnc44 := NB106_112.out
        have hnb45 := NB112_122.out
        have hnc45 := NB122_112.out
        have hcz46_0 : w37.cell? ⟨gb112, 0, none⟩ = some (.bool t107) := (blk_cell BK112.out 0).trans rfl
        have hcz46_1 : w37.cell? ⟨gb112, 1, none⟩ = some (.bool t108) := (blk_cell BK112.out 1).trans rfl
        have hcz46_2 : w37.cell? ⟨gb112, 2, none⟩ = some (.int .u32 t109) := (blk_cell BK112.out 2).trans rfl
        have hcz46_3 : w37.cell? ⟨gb112, 3, none⟩ = some (.int .u32 t110) := (blk_cell BK112.out 3).trans rfl
        have hfz46_0 := blk_frozen BK112.out 0
        have hfz46_1 := blk_frozen BK112.out 1
        have hfz46_2 := blk_frozen BK112.out 2
        have hfz46_3 := blk_frozen BK112.out 3
        have hnb47 := NB105_106.out
        have hnc47 := NB106_105.out
        have hnb48 := NB105_122.out
        have hnc48 := NB122_105.out
        have hcz49_0 : w37.cell? ⟨gb105, 0, none⟩ = some (.bool x106000_1) := (blk_cell BK105.out 0).trans rfl
        have hcz49_1 : w37.cell? ⟨gb105, 1, none⟩ = some (.bool x106001_1) := (blk_cell BK105.out 1).trans rfl
        have hcz49_2 : w37.cell? ⟨gb105, 2, none⟩ = some (.int .u32 x106002_1) := (blk_cell BK105.out 2).trans rfl
        have hcz49_3 : w37.cell? ⟨gb105, 3, none⟩ = some (.int .u32 x106003_1) := (blk_cell BK105.out 3).trans rfl
        have hfz49_0 := blk_frozen BK105.out 0
        have hfz49_1 := blk_frozen BK105.out 1
        have hfz49_2 := blk_frozen BK105.out 2
        have hfz49_3 := blk_frozen BK105.out 3
        have hnb50 := NB106_122.out
        have hnc50 := NB122_106.out
        have hcz51_0 : w37.cell? ⟨gb106, 0, none⟩ = some (.int .i64 x107000_1) := (blk_cell BK106.out 0).trans rfl
        have hcz51_1 : w37.cell? ⟨gb106, 1, none⟩ = some (.int .i64 x107001_1) := (blk_cell BK106.out 1).trans rfl
        have hfz51_0 := blk_frozen BK106.out 0
        have hfz51_1 := blk_frozen BK106.out 1
        try go_wp2
        refine bodyPost_ret (results_list (rs := [.cell 2 46, .tmp 3, .cell 4 30]) rfl (by simp) (.cell gb105 46 #[.bool t107, .bool t108, .int .u32 t109, .int .u32 t110] (0, 0) _ rfl (by refine blk_far ?_ NB105_106.out _; refine blk_far ?_ NB105_106.out _; refine blk_put (cs := #[.bool t107, .bool t108, .int .u32 t109, .int .u32 x106003_1]) ?_ 3 _ rfl; refine blk_put (cs := #[.bool t107, .bool t108, .int .u32 x106002_1, .int .u32 x106003_1]) ?_ 2 _ rfl; refine blk_put (cs := #[.bool t107, .bool x106001_1, .int .u32 x106002_1, .int .u32 x106003_1]) ?_ 1 _ rfl; refine blk_put (cs := #[.bool x106000_1, .bool x106001_1, .int .u32 x106002_1, .int .u32 x106003_1]) ?_ 0 _ rfl; refine blk_far ?_ NB105_122.out _; refine blk_far ?_ NB105_122.out _; refine blk_far ?_ NB105_122.out _; refine blk_far ?_ NB105_122.out _; exact BK105.out) Tryd.underlying46 rfl (by kernel_rfl) (.tmp (.cell gb106 30 #[.int .i64 x8_1, .int .i64 t121] (0, 0) _ rfl (by refine blk_put (cs := #[.int .i64 x8_1, .int .i64 x107001_1]) ?_ 1 _ rfl; refine blk_put (cs := #[.int .i64 x107000_1, .int .i64 x107001_1]) ?_ 0 _ rfl; refine blk_far ?_ NB106_105.out _; refine blk_far ?_ NB106_105.out _; refine blk_far ?_ NB106_105.out _; refine blk_far ?_ NB106_105.out _; refine blk_far ?_ NB106_122.out _; refine blk_far ?_ NB106_122.out _; refine blk_far ?_ NB106_122.out _; refine blk_far ?_ NB106_122.out _; exact BK106.out) Tryd.underlying30 rfl (by kernel_rfl) .nil)))) rfl ?_
        exact ⟨_, by (rfl), by exact Kd.S_mono (Kd.S_far (p := ⟨gb106, 1, none⟩) (Kd.S_far (p := ⟨gb106, 0, none⟩) (Kd.S_far (p := ⟨gb105, 3, none⟩) (Kd.S_far (p := ⟨gb105, 2, none⟩) (Kd.S_far (p := ⟨gb105, 1, none⟩) (Kd.S_far (p := ⟨gb105, 0, none⟩) (Kd.S_far (p := ⟨gb122, 3, none⟩) (Kd.S_far (p := ⟨gb122, 2, none⟩) (Kd.S_far (p := ⟨gb122, 1, none⟩) (Kd.S_far (p := ⟨gb122, 0, none⟩) (Kd.S_types (Kd.S_types (Kd.S_mono HO_7.out (fun k_ hk => (⟨hk, hk.2⟩ : _ ∧ k_ ≠ gb122))) BK105.out (by decide)) BK106.out (by decide)) (fun _ hk => hk.1.1.2) (.int .u32 t114)) (fun _ hk => hk.1.1.2) (.int .u32 t115)) (fun _ hk => hk.1.1.2) (.int .u32 t116)) (fun _ hk => hk.1.1.2) (.slice Ao41 t117.length co41)) (fun _ hk => hk.1.2) (.bool t107)) (fun _ hk => hk.1.2) (.bool t108)) (fun _ hk => hk.1.2) (.int .u32 t109)) (fun _ hk => hk.1.2) (.int .u32 t110)) (fun _ hk => hk.2) (.int .i64 x8_1)) (fun _ hk => hk.2) (.int .i64 t121)) (fun _ hk => trivial), by repeat (with_reducible first | exact HB.out | refine below_set ?_ GE105.out | refine below_set ?_ GE106.out | refine below_set ?_ GE122.out)⟩
      ·rw [if_neg c13] at H
       exact absurd H (by simp)
     ·rw [if_neg c12] at H
      exact absurd H (by simp)
    ·rw [if_neg c11] at H
     have c11b0 : decide (x8_1 < (l0.length : Int)) = false := decide_eq_false c11
     clear c11
     simp only [Option.some.injEq, Prod.mk.injEq] at H
     obtain ⟨rfl, rfl, rfl, rfl, rfl, rfl, rfl⟩ := H
     have hnb52 := NB112_105.out
     have hnc52 := NB105_112.out
     have hnb53 := NB112_106.out
     have hnc53 := NB106_112.out
     have hcz54_0 : wr.cell? ⟨gb112, 0, none⟩ = some (.bool t107) := (blk_cell BK112.out 0).trans rfl
     have hcz54_1 : wr.cell? ⟨gb112, 1, none⟩ = some (.bool t108) := (blk_cell BK112.out 1).trans rfl
     have hcz54_2 : wr.cell? ⟨gb112, 2, none⟩ = some (.int .u32 t109) := (blk_cell BK112.out 2).trans rfl
     have hcz54_3 : wr.cell? ⟨gb112, 3, none⟩ = some (.int .u32 t110) := (blk_cell BK112.out 3).trans rfl
     have hfz54_0 := blk_frozen BK112.out 0
     have hfz54_1 := blk_frozen BK112.out 1
     have hfz54_2 := blk_frozen BK112.out 2
     have hfz54_3 := blk_frozen BK112.out 3
     have hnb55 := NB105_106.out
     have hnc55 := NB106_105.out
     have hcz56_0 : wr.cell? ⟨gb105, 0, none⟩ = some (.bool x106000_1) := (blk_cell BK105.out 0).trans rfl
     have hcz56_1 : wr.cell? ⟨gb105, 1, none⟩ = some (.bool x106001_1) := (blk_cell BK105.out 1).trans rfl
     have hcz56_2 : wr.cell? ⟨gb105, 2, none⟩ = some (.int .u32 x106002_1) := (blk_cell BK105.out 2).trans rfl
     have hcz56_3 : wr.cell? ⟨gb105, 3, none⟩ = some (.int .u32 x106003_1) := (blk_cell BK105.out 3).trans rfl
     have hfz56_0 := blk_frozen BK105.out 0
     have hfz56_1 := blk_frozen BK105.out 1
     have hfz56_2 := blk_frozen BK105.out 2
     have hfz56_3 := blk_frozen BK105.out 3
     have hcz57_0 : wr.cell? ⟨gb106, 0, none⟩ = some (.int .i64 x107000_1) := (blk_cell BK106.out 0).trans rfl
     have hcz57_1 : wr.cell? ⟨gb106, 1, none⟩ = some (.int .i64 x107001_1) := (blk_cell BK106.out 1).trans rfl
     have hfz57_0 := blk_frozen BK106.out 0
     have hfz57_1 := blk_frozen BK106.out 1
     go_wp2
     refine bodyPost_ret (results_list (rs := [.cell 2 46, .tmp 3, .cell 4 30]) rfl (by simp) (.cell gb105 46 #[.bool t107, .bool t108, .int .u32 t109, .int .u32 t110] (0, 0) _ rfl (by refine blk_far ?_ NB105_106.out _; refine blk_far ?_ NB105_106.out _; refine blk_put (cs := #[.bool t107, .bool t108, .int .u32 t109, .int .u32 x106003_1]) ?_ 3 _ rfl; refine blk_put (cs := #[.bool t107, .bool t108, .int .u32 x106002_1, .int .u32 x106003_1]) ?_ 2 _ rfl; refine blk_put (cs := #[.bool t107, .bool x106001_1, .int .u32 x106002_1, .int .u32 x106003_1]) ?_ 1 _ rfl; refine blk_put (cs := #[.bool x106000_1, .bool x106001_1, .int .u32 x106002_1, .int .u32 x106003_1]) ?_ 0 _ rfl; exact BK105.out) Tryd.underlying46 rfl (by kernel_rfl) (.tmp (.cell gb106 30 #[.int .i64 0, .int .i64 0] (0, 0) _ rfl (by refine blk_put (cs := #[.int .i64 0, .int .i64 x107001_1]) ?_ 1 _ rfl; refine blk_put (cs := #[.int .i64 x107000_1, .int .i64 x107001_1]) ?_ 0 _ rfl; refine blk_far ?_ NB106_105.out _; refine blk_far ?_ NB106_105.out _; refine blk_far ?_ NB106_105.out _; refine blk_far ?_ NB106_105.out _; exact BK106.out) Tryd.underlying30 rfl (by kernel_rfl) .nil)))) rfl ?_
     exact ⟨_, by (rfl), by exact Kd.S_mono (Kd.S_far (p := ⟨gb106, 1, none⟩) (Kd.S_far (p := ⟨gb106, 0, none⟩) (Kd.S_far (p := ⟨gb105, 3, none⟩) (Kd.S_far (p := ⟨gb105, 2, none⟩) (Kd.S_far (p := ⟨gb105, 1, none⟩) (Kd.S_far (p := ⟨gb105, 0, none⟩) (Kd.S_types (Kd.S_types HO_7.out BK105.out (by decide)) BK106.out (by decide)) (fun _ hk => hk.1.2) (.bool t107)) (fun _ hk => hk.1.2) (.bool t108)) (fun _ hk => hk.1.2) (.int .u32 t109)) (fun _ hk => hk.1.2) (.int .u32 t110)) (fun _ hk => hk.2) (.int .i64 0)) (fun _ hk => hk.2) (.int .i64 0)) (fun _ hk => trivial), by repeat (with_reducible first | exact HB.out | refine below_set ?_ GE105.out | refine below_set ?_ GE106.out)⟩
 ·rw [if_neg c3] at H
  have c3b0 : (t111 == 0) = false := beq_eq_false_iff_ne.mpr c3
  have c3b1 : (t111 != 0) = true := bne_iff_ne.mpr c3
  simp only [Option.some.injEq, Prod.mk.injEq] at H
  obtain ⟨rfl, rfl, rfl, rfl, rfl, rfl, rfl⟩ := H
  go_enter Tryd.func42, Tryd.ntmps42
  go_wp2_with (first | ((with_reducible refine gate_dst (N := 2) rfl ?_); refine box_event ?hg (N := 2) ?hd (cs := #[.bool false, .bool false, .int .u32 0, .int .u32 0]) (t := 46) ?hr ?_; (case hd => rfl); (case hg => rfl); (case hr => (go_simp; done)); intro gb105 hg w58 hbox hb; have BK105 := Aside0.mk (hbox); have GW105 := Aside0.mk ((by rw [hg]; exact (below_size HB.out) : w.heap.size ≤ gb105)); have GE105 := Aside0.mk ((by rw [hg]; exact (below_size HB.out) : w.heap.size ≤ gb105)); replace HB := Aside0.mk (below_step HB.out hb); clear hb hbox hg) | ((with_reducible refine gate_dst (N := 4) rfl ?_); refine box_event ?hg (N := 4) ?hd (cs := #[.int .i64 0, .int .i64 0]) (t := 30) ?hr ?_; (case hd => rfl); (case hg => rfl); (case hr => (go_simp; done)); intro gb106 hg w59 hbox hb; have BK106 := Aside0.mk (hbox); have GW106 := Aside0.mk ((by rw [hg]; exact (below_size HB.out) : w.heap.size ≤ gb106)); have GE106 := Aside0.mk ((by rw [hg]; exact (below_size HB.out) : w.heap.size ≤ gb106)); have NB105_106 := Aside0.mk ((by rw [hg]; exact Nat.ne_of_lt (blk_lt BK105.out) : gb105 ≠ gb106)); have NB106_105 := Aside0.mk ((by rw [hg]; exact Nat.ne_of_gt (blk_lt BK105.out) : gb106 ≠ gb105)); replace BK105 := Aside0.mk (blk_below BK105.out hb); replace HB := Aside0.mk (below_step HB.out hb); clear hb hbox hg) | ((with_reducible refine gate_callee (f := 61) rfl ?_); refine goesL_ (some 14) rfl rfl Tryd.func61 (by kernel_rfl) rfl #[.slice A0 l0.length c0] rfl (by (try simp only [List.map_toArray, List.map_cons, List.map_nil]); (rfl)) ?_; (with_reducible refine (pcap_Head.calls k _ _ l0 t107 t108 t109 t110 t111 _ ?side1 ?side2 A2.out).mono ?_); (case side1 => exact (Kd.C_below HR0.out HB.out)); (case side2 => exact HC0.out); rintro e w60 ⟨rfl, hb⟩; refine ⟨_, rfl, ?_⟩; replace BK105 := Aside0.mk (blk_below BK105.out hb); replace BK106 := Aside0.mk (blk_below BK106.out hb); replace HB := Aside0.mk (below_step HB.out hb); (try clear hb)) | ((with_reducible refine gate_dst (N := 5) rfl ?_); refine box_event ?hg (N := 5) ?hd (cs := #[.bool false, .bool false, .int .u32 0, .int .u32 0]) (t := 46) ?hr ?_; (case hd => rfl); (case hg => rfl); (case hr => (go_simp; done)); intro gb112 hg w61 hbox hb; have BK112 := Aside0.mk (hbox); have GW112 := Aside0.mk ((by rw [hg]; exact (below_size HB.out) : w.heap.size ≤ gb112)); have GE112 := Aside0.mk ((by rw [hg]; exact (below_size HB.out) : w.heap.size ≤ gb112)); have NB105_112 := Aside0.mk ((by rw [hg]; exact Nat.ne_of_lt (blk_lt BK105.out) : gb105 ≠ gb112)); have NB112_105 := Aside0.mk ((by rw [hg]; exact Nat.ne_of_gt (blk_lt BK105.out) : gb112 ≠ gb105)); have NB106_112 := Aside0.mk ((by rw [hg]; exact Nat.ne_of_lt (blk_lt BK106.out) : gb106 ≠ gb112)); have NB112_106 := Aside0.mk ((by rw [hg]; exact Nat.ne_of_gt (blk_lt BK106.out) : gb112 ≠ gb106)); replace BK105 := Aside0.mk (blk_below BK105.out hb); replace BK106 := Aside0.mk (blk_below BK106.out hb); replace HB := Aside0.mk (below_step HB.out hb); clear hb hbox hg; have hnb62 := NB112_105.out; have hnc62 := NB105_112.out; have hnb63 := NB112_106.out; have hnc63 := NB106_112.out; have hcz64_0 : w61.cell? ⟨gb112, 0, none⟩ = some (.bool false) := (blk_cell BK112.out 0).trans rfl; have hcz64_1 : w61.cell? ⟨gb112, 1, none⟩ = some (.bool false) := (blk_cell BK112.out 1).trans rfl; have hcz64_2 : w61.cell? ⟨gb112, 2, none⟩ = some (.int .u32 0) := (blk_cell BK112.out 2).trans rfl; have hcz64_3 : w61.cell? ⟨gb112, 3, none⟩ = some (.int .u32 0) := (blk_cell BK112.out 3).trans rfl; have hfz64_0 := blk_frozen BK112.out 0; have hfz64_1 := blk_frozen BK112.out 1; have hfz64_2 := blk_frozen BK112.out 2; have hfz64_3 := blk_frozen BK112.out 3; have hnb65 := NB105_106.out; have hnc65 := NB106_105.out; have hcz66_0 : w61.cell? ⟨gb105, 0, none⟩ = some (.bool false) := (blk_cell BK105.out 0).trans rfl; have hcz66_1 : w61.cell? ⟨gb105, 1, none⟩ = some (.bool false) := (blk_cell BK105.out 1).trans rfl; have hcz66_2 : w61.cell? ⟨gb105, 2, none⟩ = some (.int .u32 0) := (blk_cell BK105.out 2).trans rfl; have hcz66_3 : w61.cell? ⟨gb105, 3, none⟩ = some (.int .u32 0) := (blk_cell BK105.out 3).trans rfl; have hfz66_0 := blk_frozen BK105.out 0; have hfz66_1 := blk_frozen BK105.out 1; have hfz66_2 := blk_frozen BK105.out 2; have hfz66_3 := blk_frozen BK105.out 3; have hcz67_0 : w61.cell? ⟨gb106, 0, none⟩ = some (.int .i64 0) := (blk_cell BK106.out 0).trans rfl; have hcz67_1 : w61.cell? ⟨gb106, 1, none⟩ = some (.int .i64 0) := (blk_cell BK106.out 1).trans rfl; have hfz67_0 := blk_frozen BK106.out 0; have hfz67_1 := blk_frozen BK106.out 1))
  refine bodyPost_ret (results_list (rs := [.cell 2 46, .tmp 3, .cell 4 30]) rfl (by simp) (.cell gb105 46 #[.bool false, .bool false, .int .u32 0, .int .u32 0] (0, 0) _ rfl (by refine blk_far ?_ NB105_106.out _; refine blk_far ?_ NB105_106.out _; refine blk_put (cs := #[.bool false, .bool false, .int .u32 0, .int .u32 0]) ?_ 3 _ rfl; refine blk_put (cs := #[.bool false, .bool false, .int .u32 0, .int .u32 0]) ?_ 2 _ rfl; refine blk_put (cs := #[.bool false, .bool false, .int .u32 0, .int .u32 0]) ?_ 1 _ rfl; refine blk_put (cs := #[.bool false, .bool false, .int .u32 0, .int .u32 0]) ?_ 0 _ rfl; refine blk_far ?_ NB105_112.out _; refine blk_far ?_ NB105_112.out _; refine blk_far ?_ NB105_112.out _; refine blk_far ?_ NB105_112.out _; exact BK105.out) Tryd.underlying46 rfl (by kernel_rfl) (.tmp (.cell gb106 30 #[.int .i64 0, .int .i64 t111] (0, 0) _ rfl (by refine blk_put (cs := #[.int .i64 0, .int .i64 0]) ?_ 1 _ rfl; refine blk_put (cs := #[.int .i64 0, .int .i64 0]) ?_ 0 _ rfl; refine blk_far ?_ NB106_105.out _; refine blk_far ?_ NB106_105.out _; refine blk_far ?_ NB106_105.out _; refine blk_far ?_ NB106_105.out _; refine blk_far ?_ NB106_112.out _; refine blk_far ?_ NB106_112.out _; refine blk_far ?_ NB106_112.out _; refine blk_far ?_ NB106_112.out _; exact BK106.out) Tryd.underlying30 rfl (by kernel_rfl) .nil)))) rfl ?_
  exact ⟨_, by (rfl), by (exact Kd.S_nil _ _ _ _ _), by repeat (with_reducible first | exact HB.out | refine below_set ?_ GE105.out | refine below_set ?_ GE106.out | refine below_set ?_ GE112.out)⟩

end Go.Proofs.YtgnonglkibhnhaaDoor.Print
