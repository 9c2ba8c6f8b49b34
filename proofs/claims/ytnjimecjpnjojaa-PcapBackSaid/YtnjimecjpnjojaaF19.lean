-- laid by this session's own program (wip/mkprint.sh) for this claim
import Derived.Test.Ytnjimecjpnjojaa0
import Derived.Test.YtnjimecjpnjojaaF21
import Derived.Test.YtnjimecjpnjojaaF24
namespace Go.Proofs.Ytnjimecjpnjojaa.Print
open Go.RowKit Go.Proofs.YtnjimecjpnjojaaW.PrintWords Go.Proofs.YtnjimecjpnjojaaW.PrintLast Go.Proofs.YtnjimecjpnjojaaW.PrintMore
attribute [local go_sem] max2_int min2_int max_two min_two max_three min_three max_four min_four   -- for this text's walks alone
set_option linter.unusedVariables false
set_option linter.unusedSimpArgs false

/-! ### pcap_Read: function 19 -/
def pcap_Read.l0 : Nat → List Int → List (S46) → Int → Bool → Bool → Int → Int → Option (Bool × Bool × Int × Int × (List (S46)) × Int × Int)
  | 0, _, _, _, _, _, _, _ => none
  | k + 1, x0, x7, x8, x170000, x170001, x170002, x170003 => if x8 < (x0.length : Int) then (if 0 ≤ x8 then (if x8 ≤ (x0.length : Int) then ((pcap_Next.f k (x0.drop (x8 : Int).toNat) x170000).bind fun bt171 => (if bt171.2.2.2.2.2 = 0 then (if x7.length < 3518437208883 then (pcap_Read.l0 k x0 (x7 ++ [(⟨bt171.1, bt171.2.1, bt171.2.2.1, bt171.2.2.2.1⟩ : S46)]) (wrap64 (x8 + bt171.2.2.2.2.1)) x170000 x170001 x170002 x170003) else (none)) else (some (x170000, x170001, x170002, x170003, x7, x8, bt171.2.2.2.2.2)))) else (none)) else (none)) else (some (x170000, x170001, x170002, x170003, x7, 0, 0))
def pcap_Read.f (k : Nat) (l0 : List Int) : Option (Bool × Bool × Int × Int × (List (S46)) × Int × Int) := (pcap_Head.f k l0).bind fun bt164 => (if bt164.2.2.2.2 = 0 then (pcap_Read.l0 k l0 ([] : List (S46)) 24 bt164.1 bt164.2.1 bt164.2.2.1 bt164.2.2.2.1) else (some (false, false, 0, 0, ([] : List (S46)), 0, bt164.2.2.2.2)))
theorem pcap_Read.mono_l : ∀ k, (∀ y0 y1 y2 y3 y4 y5 y6, LeO (pcap_Read.l0 k y0 y1 y2 y3 y4 y5 y6) (pcap_Read.l0 (k + 1) y0 y1 y2 y3 y4 y5 y6))
  | 0 => fun _ _ _ _ _ _ _ r h => by simp [pcap_Read.l0] at h
  | k + 1 => by
    have ih0 := pcap_Read.mono_l k
    · intro y0 y1 y2 y3 y4 y5 y6
      unfold pcap_Read.l0
      repeat' first | (with_reducible exact ih0 _ _ _ _ _ _ _) | (with_reducible exact pcap_Next.mono _ _ _) | (with_reducible exact LeO.refl _) | (with_reducible refine LeO.ite ?_ ?_) | (with_reducible refine LeO.bind ?_ (fun _ => ?_))
theorem pcap_Read.mono : ∀ a0 k, LeO (pcap_Read.f k a0) (pcap_Read.f (k + 1) a0) := by
  intro a0 k
  have ih0 := pcap_Read.mono_l k
  unfold pcap_Read.f
  repeat' first | (with_reducible exact ih0 _ _ _ _ _ _ _) | (with_reducible exact pcap_Head.mono _ _) | (with_reducible exact LeO.refl _) | (with_reducible refine LeO.ite ?_ ?_) | (with_reducible refine LeO.bind ?_ (fun _ => ?_))
def pcap_Read.T7 : Bool × List (List Nat × List Nat) := (true, [([], []), ([], []), ([0, 1], [0, 1]), ([], []), ([3], [3]), ([2, 4], [2, 4]), ([5], [5]), ([6], [6]), ([6], [6]), ([6], [6]), ([], []), ([10, 7, 5, 0, 1, 2, 3, 4, 5, 6, 7, 10], [7, 10]), ([8, 11, 0, 1, 2, 3, 4, 5, 6, 7, 8, 10, 11], [8]), ([9, 12, 0, 1, 2, 3, 4, 5, 6, 7, 8, 9, 10, 11, 12], [9])])
def pcap_Read.B7 : List Nat := [0, 0, 3, 0, 8, 31, 63, 127, 127, 127, 0, 1279, 3583, 8191]
theorem pcap_Read.tab7 : rtab .any (opsOf Try.f19 7) = pcap_Read.T7 := by kernel_rfl
theorem pcap_Read.bits7 : waitsOk pcap_Read.T7.2 pcap_Read.B7 = true := by kernel_rfl
set_option maxHeartbeats 8000000 in
set_option maxRecDepth 100000 in
theorem pcap_Read.calls (k : Nat) (A0 : Option Addr) (c0 : Nat) (l0 : List Int) (r1 : Bool) (r2 : Bool) (r3 : Int) (r4 : Int) (r5 : List (S46)) (r6 : Int) (r7 : Int) (w : World) (hr0 : Kd.C (Kd.int .u8) w A0 l0.length l0) (hc0 : l0.length ≤ c0) (h : pcap_Read.f k l0 = some (r1, r2, r3, r4, r5, r6, r7)) :
    Calls Try.prog 19 #[.slice A0 l0.length c0] w fun e w' => ∃ v4_ : Value, e = .returned (.tuple #[.agg #[.bool r1, .bool r2, .int .u32 r3, .int .u32 r4], v4_, .agg #[.int .i64 r6, .int .i64 r7]]) ∧ Kd.S k46 46 w' w.heap.size (fun _ => True) v4_ r5 ∧ Below w.heap.size w w' := by
  have hu24 := Try.underlying24
  have hu36 := Try.underlying36
  have hu46 := Try.underlying46
  have HR0 := Aside0.mk hr0
  have HC0 := Aside0.mk hc0
  clear hr0 hc0
  have HB := Aside0.mk (Below.refl w.heap.size w)
  have H : ((pcap_Head.f k l0).bind fun bt164 => (if bt164.2.2.2.2 = 0 then (pcap_Read.l0 k l0 ([] : List (S46)) 24 bt164.1 bt164.2.1 bt164.2.2.1 bt164.2.2.2.1) else (some (false, false, 0, 0, ([] : List (S46)), 0, bt164.2.2.2.2)))) = some (r1, r2, r3, r4, r5, r6, r7) := h
  clear h
  replace H := Option.bind_eq_some_iff.mp H
  obtain ⟨⟨t164, t165, t166, t167, t168⟩, A20, H⟩ := H
  replace H : (if t168 = 0 then (pcap_Read.l0 k l0 ([] : List (S46)) 24 t164 t165 t166 t167) else (some (false, false, 0, 0, ([] : List (S46)), 0, t168))) = some (r1, r2, r3, r4, r5, r6, r7) := H
  have A2 := Aside0.mk A20
  clear A20
  by_cases c3 : t168 = 0
  · rw [if_pos c3] at H
    have c3b0 : (t168 == 0) = true := beq_iff_eq.mpr c3
    have c3b1 : (t168 != 0) = false := bne_eq_false_iff_eq.mpr c3
    clear c3
    have H' := Aside0.mk H
    clear H
    go_enter Try.func19, Try.ntmps19
    go_wp2_with (first | ((with_reducible refine gate_dst (N := 2) rfl ?_); refine box_event ?hg (N := 2) ?hd (cs := #[.bool false, .bool false, .int .u32 0, .int .u32 0]) (t := 24) ?hr ?_; (case hd => rfl); (case hg => rfl); (case hr => (go_simp; done)); intro gb162 hg w4 hbox hb; have n0_ := Aside0.mk (below_step (by exact HB.out) hb); have n1_ := Aside0.mk (hbox); have n2_ := Aside0.mk ((by rw [hg]; exact (below_size (by exact HB.out)) : w.heap.size ≤ gb162)); have n3_ := Aside0.mk ((by rw [hg]; exact (below_size (by exact HB.out)) : w.heap.size ≤ gb162)); clear HB; have HB := n0_; have BK162 := n1_; have GW162 := n2_; have GE162 := n3_; clear n0_ n1_ n2_ n3_; clear hb hbox hg) | ((with_reducible refine gate_dst (N := 4) rfl ?_); refine box_event ?hg (N := 4) ?hd (cs := #[.int .i64 0, .int .i64 0]) (t := 36) ?hr ?_; (case hd => rfl); (case hg => rfl); (case hr => (go_simp; done)); intro gb163 hg w5 hbox hb; have n0_ := Aside0.mk (blk_below (g := gb162) (o := .cells #[.bool false, .bool false, .int .u32 0, .int .u32 0] 24 (0, 0)) (by exact BK162.out) hb); have n1_ := Aside0.mk (below_step (by exact HB.out) hb); have n2_ := Aside0.mk (hbox); have n3_ := Aside0.mk ((by rw [hg]; exact (below_size (by exact HB.out)) : w.heap.size ≤ gb163)); have n4_ := Aside0.mk ((by rw [hg]; exact (below_size (by exact HB.out)) : w.heap.size ≤ gb163)); have n5_ := Aside0.mk ((by rw [hg]; exact Nat.ne_of_lt (blk_lt (g := gb162) (o := .cells #[.bool false, .bool false, .int .u32 0, .int .u32 0] 24 (0, 0)) (by exact BK162.out)) : gb162 ≠ gb163)); have n6_ := Aside0.mk ((by rw [hg]; exact Nat.ne_of_gt (blk_lt (g := gb162) (o := .cells #[.bool false, .bool false, .int .u32 0, .int .u32 0] 24 (0, 0)) (by exact BK162.out)) : gb163 ≠ gb162)); clear BK162; clear HB; have BK162 := n0_; have HB := n1_; have BK163 := n2_; have GW163 := n3_; have GE163 := n4_; have NB162_163 := n5_; have NB163_162 := n6_; clear n0_ n1_ n2_ n3_ n4_ n5_ n6_; clear hb hbox hg) | ((with_reducible refine gate_callee (f := 21) rfl ?_); refine goesL_ (some 14) rfl rfl Try.func21 (by kernel_rfl) rfl #[.slice A0 l0.length c0] rfl (by (try simp only [List.map_toArray, List.map_cons, List.map_nil]); (rfl)) ?_; (with_reducible refine (pcap_Head.calls k _ _ l0 t164 t165 t166 t167 t168 _ ?side1 ?side2 A2.out).mono ?_); (case side1 => exact (Kd.C_below HR0.out HB.out)); (case side2 => exact HC0.out); rintro e w6 ⟨rfl, hb⟩; refine ⟨_, rfl, ?_⟩; have n0_ := Aside0.mk (blk_below (g := gb162) (o := .cells #[.bool false, .bool false, .int .u32 0, .int .u32 0] 24 (0, 0)) (by exact BK162.out) hb); have n1_ := Aside0.mk (blk_below (g := gb163) (o := .cells #[.int .i64 0, .int .i64 0] 36 (0, 0)) (by exact BK163.out) hb); have n2_ := Aside0.mk (below_step (by exact HB.out) hb); clear BK162; clear BK163; clear HB; have BK162 := n0_; have BK163 := n1_; have HB := n2_; clear n0_ n1_ n2_; (try clear hb)) | ((with_reducible refine gate_dst (N := 5) rfl ?_); refine box_event ?hg (N := 5) ?hd (cs := #[.bool false, .bool false, .int .u32 0, .int .u32 0]) (t := 24) ?hr ?_; (case hd => rfl); (case hg => rfl); (case hr => (go_simp; done)); intro gb169 hg w7 hbox hb; have n0_ := Aside0.mk (blk_below (g := gb162) (o := .cells #[.bool false, .bool false, .int .u32 0, .int .u32 0] 24 (0, 0)) (by exact BK162.out) hb); have n1_ := Aside0.mk (blk_below (g := gb163) (o := .cells #[.int .i64 0, .int .i64 0] 36 (0, 0)) (by exact BK163.out) hb); have n2_ := Aside0.mk (below_step (by exact HB.out) hb); have n3_ := Aside0.mk (hbox); have n4_ := Aside0.mk ((by rw [hg]; exact (below_size (by exact HB.out)) : w.heap.size ≤ gb169)); have n5_ := Aside0.mk ((by rw [hg]; exact (below_size (by exact HB.out)) : w.heap.size ≤ gb169)); have n6_ := Aside0.mk ((by rw [hg]; exact Nat.ne_of_lt (blk_lt (g := gb162) (o := .cells #[.bool false, .bool false, .int .u32 0, .int .u32 0] 24 (0, 0)) (by exact BK162.out)) : gb162 ≠ gb169)); have n7_ := Aside0.mk ((by rw [hg]; exact Nat.ne_of_gt (blk_lt (g := gb162) (o := .cells #[.bool false, .bool false, .int .u32 0, .int .u32 0] 24 (0, 0)) (by exact BK162.out)) : gb169 ≠ gb162)); have n8_ := Aside0.mk ((by rw [hg]; exact Nat.ne_of_lt (blk_lt (g := gb163) (o := .cells #[.int .i64 0, .int .i64 0] 36 (0, 0)) (by exact BK163.out)) : gb163 ≠ gb169)); have n9_ := Aside0.mk ((by rw [hg]; exact Nat.ne_of_gt (blk_lt (g := gb163) (o := .cells #[.int .i64 0, .int .i64 0] 36 (0, 0)) (by exact BK163.out)) : gb169 ≠ gb163)); clear BK162; clear BK163; clear HB; have BK162 := n0_; have BK163 := n1_; have HB := n2_; have BK169 := n3_; have GW169 := n4_; have GE169 := n5_; have NB162_169 := n6_; have NB169_162 := n7_; have NB163_169 := n8_; have NB169_163 := n9_; clear n0_ n1_ n2_ n3_ n4_ n5_ n6_ n7_ n8_ n9_; clear hb hbox hg; have hnb8 := NB169_162.out; have hnc8 := NB162_169.out; have hnb9 := NB169_163.out; have hnc9 := NB163_169.out; have hcz10_0 : w7.cell? ⟨gb169, 0, none⟩ = some (.bool false) := (blk_cell BK169.out 0).trans rfl; have hcz10_1 : w7.cell? ⟨gb169, 1, none⟩ = some (.bool false) := (blk_cell BK169.out 1).trans rfl; have hcz10_2 : w7.cell? ⟨gb169, 2, none⟩ = some (.int .u32 0) := (blk_cell BK169.out 2).trans rfl; have hcz10_3 : w7.cell? ⟨gb169, 3, none⟩ = some (.int .u32 0) := (blk_cell BK169.out 3).trans rfl; have hfz10_0 := blk_frozen BK169.out 0; have hfz10_1 := blk_frozen BK169.out 1; have hfz10_2 := blk_frozen BK169.out 2; have hfz10_3 := blk_frozen BK169.out 3))
    go_loopg [7, 8] k (fun kq v7 v8 w' => ∃ (x7_1 : List (S46)) (x8_1 : Int) (x163000_1 : Bool) (x163001_1 : Bool) (x163002_1 : Int) (x163003_1 : Int) (x164000_1 : Int) (x164001_1 : Int), v8 = .int .i64 x8_1 ∧ Aside0 (pcap_Read.l0 kq l0 x7_1 x8_1 t164 t165 t166 t167 = some (r1, r2, r3, r4, r5, r6, r7)) ∧ Aside0 (kq ≤ k) ∧ Aside0 (Kd.S k46 46 w' w.heap.size (fun _ => True) v7 x7_1) ∧ Aside0 (w'.heap[gb162]? = some (.cells #[.bool x163000_1, .bool x163001_1, .int .u32 x163002_1, .int .u32 x163003_1] 24 (0, 0))) ∧ Aside0 (w'.heap[gb163]? = some (.cells #[.int .i64 x164000_1, .int .i64 x164001_1] 36 (0, 0))) ∧ Aside0 (w'.heap[gb169]? = some (.cells #[.bool t164, .bool t165, .int .u32 t166, .int .u32 t167] 24 (0, 0))) ∧ Aside0 (Below w.heap.size w w'))
    case atStart => exact ⟨([] : List (S46)), (24), (false), (false), (0), (0), (0), (0), (by (rfl)), H', ⟨Nat.le_refl _⟩, ⟨by (exact Kd.S_nil _ _ _ _ _)⟩, ⟨by refine blk_far ?_ NB162_169.out _; refine blk_far ?_ NB162_169.out _; refine blk_far ?_ NB162_169.out _; refine blk_far ?_ NB162_169.out _; exact BK162.out⟩, ⟨by refine blk_far ?_ NB163_169.out _; refine blk_far ?_ NB163_169.out _; refine blk_far ?_ NB163_169.out _; refine blk_far ?_ NB163_169.out _; exact BK163.out⟩, ⟨by refine blk_put (cs := #[.bool t164, .bool t165, .int .u32 t166, .int .u32 0]) ?_ 3 _ rfl; refine blk_put (cs := #[.bool t164, .bool t165, .int .u32 0, .int .u32 0]) ?_ 2 _ rfl; refine blk_put (cs := #[.bool t164, .bool false, .int .u32 0, .int .u32 0]) ?_ 1 _ rfl; refine blk_put (cs := #[.bool false, .bool false, .int .u32 0, .int .u32 0]) ?_ 0 _ rfl; exact BK169.out⟩, ⟨by repeat (with_reducible first | exact HB.out | refine below_set ?_ GE169.out)⟩⟩
    case round =>
      clear H'
      try clear c3b0
      try clear c3b1
      try clear hcz10_0
      try clear hcz10_1
      try clear hcz10_2
      try clear hcz10_3
      try clear hfz10_0
      try clear hfz10_1
      try clear hfz10_2
      try clear hfz10_3
      obtain ⟨x7_1, x8_1, x163000_1, x163001_1, x163002_1, x163003_1, x164000_1, x164001_1, rfl, HA, HK1, HO_7, BK162, BK163, BK169, HB⟩ := hrel
      cases gk with
      | zero => exact absurd HA.out (by simp [pcap_Read.l0])
      | succ k1 =>
        have H := HA.out
        clear HA
        simp only [pcap_Read.l0] at H
        by_cases c11 : x8_1 < (l0.length : Int)
        · rw [if_pos c11] at H
          have c11b0 : decide (x8_1 < (l0.length : Int)) = true := decide_eq_true c11
          clear c11
          by_cases c12 : 0 ≤ x8_1
          · rw [if_pos c12] at H
            have c12b0 := eq_true c12
            have c12b1 : decide (0 ≤ x8_1) = true := decide_eq_true c12
            clear c12
            by_cases c13 : x8_1 ≤ (l0.length : Int)
            · rw [if_pos c13] at H
              have c13b0 := eq_true c13
              have c13b1 : decide (x8_1 ≤ (l0.length : Int)) = true := decide_eq_true c13
              clear c13
              replace H := Option.bind_eq_some_iff.mp H
              obtain ⟨⟨t171, t172, t173, t174, t177, t178⟩, A140, H⟩ := H
              replace H : (if t178 = 0 then (if x7_1.length < 3518437208883 then (pcap_Read.l0 k1 l0 (x7_1 ++ [(⟨t171, t172, t173, t174⟩ : S46)]) (wrap64 (x8_1 + t177)) t164 t165 t166 t167) else (none)) else (some (t164, t165, t166, t167, x7_1, x8_1, t178))) = some (r1, r2, r3, r4, r5, r6, r7) := H
              have A14 := Aside0.mk A140
              clear A140
              by_cases c15 : t178 = 0
              · rw [if_pos c15] at H
                have c15b0 : (t178 == 0) = true := beq_iff_eq.mpr c15
                have c15b1 : (t178 != 0) = false := bne_eq_false_iff_eq.mpr c15
                clear c15
                by_cases c16 : x7_1.length < 3518437208883
                · rw [if_pos c16] at H
                  have LMc16 := Aside0.mk c16
                  clear c16
                  obtain ⟨y180, hy180⟩ : ∃ y_ : List (S46), y_ = (x7_1 ++ [(⟨t171, t172, t173, t174⟩ : S46)]) := ⟨_, rfl⟩
                  replace H : (pcap_Read.l0 k1 l0 y180 (wrap64 (x8_1 + t177)) t164 t165 t166 t167) = some (r1, r2, r3, r4, r5, r6, r7) := by (rw [hy180]; with_reducible exact H)
                  have Ny180 := Aside0.mk hy180
                  clear hy180
                  have H' := Aside0.mk H
                  clear H
                  try go_wp2
                  have n0_ := Aside0.mk (Kd.S_drew HO_7.out)
                  have n1_ := Aside0.mk (blk_drew BK162.out)
                  have n2_ := Aside0.mk (blk_drew BK163.out)
                  have n3_ := Aside0.mk (blk_drew BK169.out)
                  have n4_ := Aside0.mk (below_drew1 HB.out)
                  clear HO_7
                  clear BK162
                  clear BK163
                  clear BK169
                  clear HB
                  have HO_7 := n0_
                  have BK162 := n1_
                  have BK163 := n2_
                  have BK169 := n3_
                  have HB := n4_
                  clear n0_ n1_ n2_ n3_ n4_
                  obtain ⟨i018, hi018, _, hsz18, _⟩ := info_parts info5
                  obtain ⟨A18, hcut18, hA18, hC18⟩ := print_drop_of (P := Try.prog) (Value.int .u8) 0 28 5 .i64 Try.underlying28 hi018 hsz18 A0 c0 l0 x8_1 (of_decide_eq_true (by (with_reducible assumption))) (of_decide_eq_true (by (with_reducible assumption))) HC0.out
                  have HR170 := Aside0.mk (Kd.C_of_reads (h1 := fun _ => rfl) (hA18 _ (Kd.reads_of_C HR0.out)))
                  have HC170 := Aside0.mk hC18
                  clear hA18 hC18 hi018 hsz18
                  refine start_ (n := 14) (S := fun w' => w'.cell? ⟨gb169, 0, none⟩ = some (.bool t164) ∧ w'.cell? ⟨gb169, 1, none⟩ = some (.bool t165) ∧ w'.cell? ⟨gb169, 2, none⟩ = some (.int .u32 t166) ∧ w'.cell? ⟨gb169, 3, none⟩ = some (.int .u32 t167)) (ds := []) #[false, false, false, false, false, false, false, false, false, false, false, false, false, false] (by kernel_rfl) rfl rfl ⟨(blk_cell BK169.out 0).trans rfl, (blk_cell BK169.out 1).trans rfl, (blk_cell BK169.out 2).trans rfl, (blk_cell BK169.out 3).trans rfl⟩ (fun hHeld => ?_); refine with_tabW pcap_Read.tab7 pcap_Read.bits7 (fun HT_ HW_ => ?_)
                  generalize wr.drew = w17 at HO_7 BK162 BK163 BK169 HB HR170 hHeld ⊢
                  refine pure_ (i := 0) (N := some 27) (v := ?_) (a' := ?_) #[true, false, false, false, false, false, false, false, false, false, false, false, false, false] rfl rfl (any_of HT_.out (by kernel_rfl)) (fun _ _ _ h => h) (Or.inl ⟨by rfl, ?_⟩) ?_ ?_
                  rotate_left
                  · intro w'
                    go_simp
                    with_reducible rfl
                  rotate_left
                  · simp only [Act.put, List.setIfInBounds_toArray, List.set_cons_zero, List.set_cons_succ, i64_w, i32_w]
                    rfl
                  refine pure_ (i := 1) (N := some 28) (v := ?_) (a' := ?_) #[true, true, false, false, false, false, false, false, false, false, false, false, false, false] rfl rfl (any_of HT_.out (by kernel_rfl)) (fun _ _ _ h => h) (Or.inl ⟨by rfl, ?_⟩) ?_ ?_
                  rotate_left
                  · intro w'
                    go_simp
                    with_reducible rfl
                  rotate_left
                  · simp only [Act.put, List.setIfInBounds_toArray, List.set_cons_zero, List.set_cons_succ, i64_w, i32_w]
                    rfl
                  refine pure_ (i := 2) (N := some 29) (v := ?_) (a' := ?_) #[true, true, true, false, false, false, false, false, false, false, false, false, false, false] rfl rfl (any_of HT_.out (by kernel_rfl)) (fun _ _ _ h => h) (Or.inl ⟨by rfl, ?_⟩) ?_ ?_
                  rotate_left
                  · intro w'
                    go_simp
                    with_reducible rfl
                  rotate_left
                  · simp only [Act.put, List.setIfInBounds_toArray, List.set_cons_zero, List.set_cons_succ, i64_w, i32_w]
                    rfl
                  refine pure_ (i := 3) (N := some 30) (v := ?_) (a' := ?_) #[true, true, true, true, false, false, false, false, false, false, false, false, false, false] rfl rfl (any_of HT_.out (by kernel_rfl)) (fun _ _ _ h => h) (Or.inl ⟨by rfl, ?_⟩) ?_ ?_
                  rotate_left
                  · intro w'
                    go_simp
                    with_reducible rfl
                  rotate_left
                  · simp only [Act.put, List.setIfInBounds_toArray, List.set_cons_zero, List.set_cons_succ, i64_w, i32_w]
                    rfl
                  refine take_ (i := 4) (N := some 31) (v := ?_) (a' := ?_) #[true, true, true, true, true, false, false, false, false, false, false, false, false, false] rfl rfl (take_ofW HT_.out HW_.out (by kernel_rfl)) (fun _ _ _ h => h) (Or.inl ⟨by rfl, ?_⟩) hHeld ?_ ?_
                  rotate_left
                  · rintro w' ⟨s0, s1, s2, s3⟩
                    go_simp
                    with_reducible rfl
                  rotate_left
                  · simp only [Act.put, List.setIfInBounds_toArray, List.set_cons_zero, List.set_cons_succ, i64_w, i32_w]
                    rfl
                  refine join_ (σ := Value × Nat) 3 #[true, true, true, true, true, true, true, true, true, true, true, false, false, false] (fun s_ => [(32, .tuple #[.agg #[.int .u32 t171, .int .u32 t172, .int .u32 t173, s_.1], .int .i64 t177, .int .i64 t178]), (9, .pointer (some ⟨s_.2, 0, none⟩)), (26, .tuple #[.agg #[.int .u32 t171, .int .u32 t172, .int .u32 t173, s_.1], .int .i64 t177, .int .i64 t178]), (33, .agg #[.int .u32 t171, .int .u32 t172, .int .u32 t173, s_.1]), (34, .int .i64 t177), (35, .int .i64 t178)]) (fun s_ w' => (w'.cell? ⟨gb169, 0, none⟩ = some (.bool t164) ∧ w'.cell? ⟨gb169, 1, none⟩ = some (.bool t165) ∧ w'.cell? ⟨gb169, 2, none⟩ = some (.int .u32 t166) ∧ w'.cell? ⟨gb169, 3, none⟩ = some (.int .u32 t167)) ∧ (Kd.R (Kd.int .u8) 5 w' w.heap.size (fun _ => True) s_.1 t174) ∧ (Kd.S k46 46 w' w.heap.size (fun k_ => some k_ ≠ (s_.1 : Value).ownBlock ∧ k_ ≠ s_.2) u7 x7_1) ∧ (w'.heap[gb162]? = some (.cells #[.bool x163000_1, .bool x163001_1, .int .u32 x163002_1, .int .u32 x163003_1] 24 (0, 0))) ∧ (w'.heap[gb163]? = some (.cells #[.int .i64 x164000_1, .int .i64 x164001_1] 36 (0, 0))) ∧ (w'.heap[gb169]? = some (.cells #[.bool t164, .bool t165, .int .u32 t166, .int .u32 t167] 24 (0, 0))) ∧ (w'.heap[s_.2]? = some (.cells #[.int .u32 0, .int .u32 0, .int .u32 0, .slice none 0 0] 46 (0, 0))) ∧ (w.heap.size ≤ s_.2) ∧ (w.heap.size ≤ s_.2) ∧ (gb162 ≠ s_.2) ∧ (s_.2 ≠ gb162) ∧ (gb163 ≠ s_.2) ∧ (s_.2 ≠ gb163) ∧ (gb169 ≠ s_.2) ∧ (s_.2 ≠ gb169) ∧ (Below w.heap.size w w')) ?_ ?_
                  rotate_left
                  · intro hCont
                    refine two_ (i := 5) (j := 10) (Ni := some 32) (Nj := some 9) #[true, true, true, true, true, true, false, false, false, false, false, false, false, false] #[true, true, true, true, true, false, false, false, false, false, true, false, false, false] rfl rfl rfl rfl (two_of HT_.out (by kernel_rfl)) (by decide) (by decide) (fun K hK => ?_) (fun K hK => ?_)
                    · skip
                      refine goes_ Try.func24 (by kernel_rfl) rfl #[.slice A18 (l0.drop (x8_1 : Int).toNat).length (c0 - x8_1.toNat), .bool t164] (by rfl) rfl rfl (by (try simp only [List.map_toArray, List.map_cons, List.map_nil]); (rw [show (l0.drop (x8_1 : Int).toNat).length = (l0.length - x8_1.toNat) from List.length_drop] <;> rfl)) ?_
                      with_reducible refine (pcap_Next.calls k1 _ _ (l0.drop (x8_1 : Int).toNat) t164 t171 t172 t173 t174 t177 t178 _ ?side1 ?side2 A14.out).mono ?_
                      (case side1 => exact (Kd.C_below HR170.out HB.out))
                      (case side2 => exact HC170.out)
                      rintro e w19 ⟨v175, rfl, ho0, hb⟩
                      refine ⟨_, rfl, ?_⟩
                      have n0_ := Aside0.mk (Kd.S_elder' (by exact HO_7.out) (by (exact Kd.R_base ho0)) hb)
                      have n1_ := Aside0.mk (Kd.R_lower ho0 (below_size (by exact HB.out)))
                      have n2_ := Aside0.mk (blk_below (g := gb162) (o := .cells #[.bool x163000_1, .bool x163001_1, .int .u32 x163002_1, .int .u32 x163003_1] 24 (0, 0)) (by exact BK162.out) hb)
                      have n3_ := Aside0.mk (blk_below (g := gb163) (o := .cells #[.int .i64 x164000_1, .int .i64 x164001_1] 36 (0, 0)) (by exact BK163.out) hb)
                      have n4_ := Aside0.mk (blk_below (g := gb169) (o := .cells #[.bool t164, .bool t165, .int .u32 t166, .int .u32 t167] 24 (0, 0)) (by exact BK169.out) hb)
                      have n5_ := Aside0.mk (below_step (by exact HB.out) hb)
                      clear HO_7
                      clear BK162
                      clear BK163
                      clear BK169
                      clear HB
                      have HO_7 := n0_
                      have HO176 := n1_
                      have BK162 := n2_
                      have BK163 := n3_
                      have BK169 := n4_
                      have HB := n5_
                      clear n0_ n1_ n2_ n3_ n4_ n5_
                      (try clear hb)
                      (skip)
                      (skip)
                      (skip)
                      (try clear ho0)
                      refine hK.out _ _ ⟨(blk_cell BK169.out 0).trans rfl, (blk_cell BK169.out 1).trans rfl, (blk_cell BK169.out 2).trans rfl, (blk_cell BK169.out 3).trans rfl⟩ (fun hHeld => ?_)
                      clear hK K
                      refine norm_ (a' := ?_) ?_ ?_
                      rotate_left
                      · show Act.put _ (some 32) _ = _
                        simp only [Act.put, List.setIfInBounds_toArray, List.set_cons_zero, List.set_cons_succ, i64_w, i32_w]
                        rfl
                      refine pure_ (i := 6) (N := some 26) (v := ?_) (a' := ?_) #[true, true, true, true, true, true, true, false, false, false, false, false, false, false] rfl rfl (any_of HT_.out (by kernel_rfl)) (fun _ _ _ h => h) (Or.inl ⟨by rfl, ?_⟩) ?_ ?_
                      rotate_left
                      · intro w'
                        go_simp
                        with_reducible rfl
                      rotate_left
                      · simp only [Act.put, List.setIfInBounds_toArray, List.set_cons_zero, List.set_cons_succ, i64_w, i32_w]
                        rfl
                      refine pure_ (i := 7) (N := some 33) (v := ?_) (a' := ?_) #[true, true, true, true, true, true, true, true, false, false, false, false, false, false] rfl rfl (any_of HT_.out (by kernel_rfl)) (fun _ _ _ h => h) (Or.inl ⟨by rfl, ?_⟩) ?_ ?_
                      rotate_left
                      · intro w'
                        go_simp
                        with_reducible rfl
                      rotate_left
                      · simp only [Act.put, List.setIfInBounds_toArray, List.set_cons_zero, List.set_cons_succ, i64_w, i32_w]
                        rfl
                      refine pure_ (i := 8) (N := some 34) (v := ?_) (a' := ?_) #[true, true, true, true, true, true, true, true, true, false, false, false, false, false] rfl rfl (any_of HT_.out (by kernel_rfl)) (fun _ _ _ h => h) (Or.inl ⟨by rfl, ?_⟩) ?_ ?_
                      rotate_left
                      · intro w'
                        go_simp
                        with_reducible rfl
                      rotate_left
                      · simp only [Act.put, List.setIfInBounds_toArray, List.set_cons_zero, List.set_cons_succ, i64_w, i32_w]
                        rfl
                      refine pure_ (i := 9) (N := some 35) (v := ?_) (a' := ?_) #[true, true, true, true, true, true, true, true, true, true, false, false, false, false] rfl rfl (any_of HT_.out (by kernel_rfl)) (fun _ _ _ h => h) (Or.inl ⟨by rfl, ?_⟩) ?_ ?_
                      rotate_left
                      · intro w'
                        go_simp
                        with_reducible rfl
                      rotate_left
                      · simp only [Act.put, List.setIfInBounds_toArray, List.set_cons_zero, List.set_cons_succ, i64_w, i32_w]
                        rfl
                      refine one_ (i := 10) (N := some 9) #[true, true, true, true, true, true, true, true, true, true, true, false, false, false] rfl rfl (one_of HT_.out (by kernel_rfl)) (by decide) (fun K hK => ?_)
                      refine box_step ?hg (N := 9) ?hd (cs := #[.int .u32 0, .int .u32 0, .int .u32 0, .slice none 0 0]) (t := 46) ?hr ?_; (case hd => rfl); (case hg => rfl); (case hr => (go_simp; done))
                      intro gb179 hg w20 hbox hb
                      have n0_ := Aside0.mk (Kd.S_below (Kd.S_elderB (by exact HO_7.out) gb179 (Nat.le_of_eq hg.symm)) hb)
                      have n1_ := Aside0.mk (Kd.R_below (by exact HO176.out) hb)
                      have n2_ := Aside0.mk (blk_below (g := gb162) (o := .cells #[.bool x163000_1, .bool x163001_1, .int .u32 x163002_1, .int .u32 x163003_1] 24 (0, 0)) (by exact BK162.out) hb)
                      have n3_ := Aside0.mk (blk_below (g := gb163) (o := .cells #[.int .i64 x164000_1, .int .i64 x164001_1] 36 (0, 0)) (by exact BK163.out) hb)
                      have n4_ := Aside0.mk (blk_below (g := gb169) (o := .cells #[.bool t164, .bool t165, .int .u32 t166, .int .u32 t167] 24 (0, 0)) (by exact BK169.out) hb)
                      have n5_ := Aside0.mk (below_step (by exact HB.out) hb)
                      have n6_ := Aside0.mk (hbox)
                      have n7_ := Aside0.mk ((by rw [hg]; exact (below_size (by exact HB.out)) : w.heap.size ≤ gb179))
                      have n8_ := Aside0.mk ((by rw [hg]; exact (below_size (by exact HB.out)) : w.heap.size ≤ gb179))
                      have n9_ := Aside0.mk ((by rw [hg]; exact Nat.ne_of_lt (blk_lt (g := gb162) (o := .cells #[.bool x163000_1, .bool x163001_1, .int .u32 x163002_1, .int .u32 x163003_1] 24 (0, 0)) (by exact BK162.out)) : gb162 ≠ gb179))
                      have n10_ := Aside0.mk ((by rw [hg]; exact Nat.ne_of_gt (blk_lt (g := gb162) (o := .cells #[.bool x163000_1, .bool x163001_1, .int .u32 x163002_1, .int .u32 x163003_1] 24 (0, 0)) (by exact BK162.out)) : gb179 ≠ gb162))
                      have n11_ := Aside0.mk ((by rw [hg]; exact Nat.ne_of_lt (blk_lt (g := gb163) (o := .cells #[.int .i64 x164000_1, .int .i64 x164001_1] 36 (0, 0)) (by exact BK163.out)) : gb163 ≠ gb179))
                      have n12_ := Aside0.mk ((by rw [hg]; exact Nat.ne_of_gt (blk_lt (g := gb163) (o := .cells #[.int .i64 x164000_1, .int .i64 x164001_1] 36 (0, 0)) (by exact BK163.out)) : gb179 ≠ gb163))
                      have n13_ := Aside0.mk ((by rw [hg]; exact Nat.ne_of_lt (blk_lt (g := gb169) (o := .cells #[.bool t164, .bool t165, .int .u32 t166, .int .u32 t167] 24 (0, 0)) (by exact BK169.out)) : gb169 ≠ gb179))
                      have n14_ := Aside0.mk ((by rw [hg]; exact Nat.ne_of_gt (blk_lt (g := gb169) (o := .cells #[.bool t164, .bool t165, .int .u32 t166, .int .u32 t167] 24 (0, 0)) (by exact BK169.out)) : gb179 ≠ gb169))
                      clear HO_7
                      clear HO176
                      clear BK162
                      clear BK163
                      clear BK169
                      clear HB
                      have HO_7 := n0_
                      have HO176 := n1_
                      have BK162 := n2_
                      have BK163 := n3_
                      have BK169 := n4_
                      have HB := n5_
                      have BK179 := n6_
                      have GW179 := n7_
                      have GE179 := n8_
                      have NB162_179 := n9_
                      have NB179_162 := n10_
                      have NB163_179 := n11_
                      have NB179_163 := n12_
                      have NB169_179 := n13_
                      have NB179_169 := n14_
                      clear n0_ n1_ n2_ n3_ n4_ n5_ n6_ n7_ n8_ n9_ n10_ n11_ n12_ n13_ n14_
                      clear hb hbox hg
                      refine hK.out _ _ ⟨(blk_cell BK169.out 0).trans rfl, (blk_cell BK169.out 1).trans rfl, (blk_cell BK169.out 2).trans rfl, (blk_cell BK169.out 3).trans rfl⟩ (fun hHeld => ?_)
                      clear hK K
                      refine norm_ (a' := ?_) ?_ ?_
                      rotate_left
                      · show Act.put _ (some 9) _ = _
                        simp only [Act.put, List.setIfInBounds_toArray, List.set_cons_zero, List.set_cons_succ, i64_w, i32_w]
                        rfl
                      exact norm_ (by simp only [putAll, Act.put, List.setIfInBounds_toArray, List.set_cons_zero, List.set_cons_succ]) (hCont (v175, gb179) _ ⟨hHeld, (by exact HO176.out), (by exact Kd.S_mono HO_7.out (fun _ hk => ⟨hk.1.2, hk.2⟩)), (by exact BK162.out), (by exact BK163.out), (by exact BK169.out), (by exact BK179.out), GW179.out, GE179.out, NB162_179.out, NB179_162.out, NB163_179.out, NB179_163.out, NB169_179.out, NB179_169.out, (by exact HB.out)⟩)
                    · skip
                      refine box_step ?hg (N := 9) ?hd (cs := #[.int .u32 0, .int .u32 0, .int .u32 0, .slice none 0 0]) (t := 46) ?hr ?_; (case hd => rfl); (case hg => rfl); (case hr => (go_simp; done))
                      intro gb179 hg w19 hbox hb
                      have n0_ := Aside0.mk (Kd.S_below (Kd.S_elderB (by exact HO_7.out) gb179 (Nat.le_of_eq hg.symm)) hb)
                      have n1_ := Aside0.mk (blk_below (g := gb162) (o := .cells #[.bool x163000_1, .bool x163001_1, .int .u32 x163002_1, .int .u32 x163003_1] 24 (0, 0)) (by exact BK162.out) hb)
                      have n2_ := Aside0.mk (blk_below (g := gb163) (o := .cells #[.int .i64 x164000_1, .int .i64 x164001_1] 36 (0, 0)) (by exact BK163.out) hb)
                      have n3_ := Aside0.mk (blk_below (g := gb169) (o := .cells #[.bool t164, .bool t165, .int .u32 t166, .int .u32 t167] 24 (0, 0)) (by exact BK169.out) hb)
                      have n4_ := Aside0.mk (below_step (by exact HB.out) hb)
                      have n5_ := Aside0.mk (hbox)
                      have n6_ := Aside0.mk ((by rw [hg]; exact (below_size (by exact HB.out)) : w.heap.size ≤ gb179))
                      have n7_ := Aside0.mk ((by rw [hg]; exact (below_size (by exact HB.out)) : w.heap.size ≤ gb179))
                      have n8_ := Aside0.mk ((by rw [hg]; exact Nat.ne_of_lt (blk_lt (g := gb162) (o := .cells #[.bool x163000_1, .bool x163001_1, .int .u32 x163002_1, .int .u32 x163003_1] 24 (0, 0)) (by exact BK162.out)) : gb162 ≠ gb179))
                      have n9_ := Aside0.mk ((by rw [hg]; exact Nat.ne_of_gt (blk_lt (g := gb162) (o := .cells #[.bool x163000_1, .bool x163001_1, .int .u32 x163002_1, .int .u32 x163003_1] 24 (0, 0)) (by exact BK162.out)) : gb179 ≠ gb162))
                      have n10_ := Aside0.mk ((by rw [hg]; exact Nat.ne_of_lt (blk_lt (g := gb163) (o := .cells #[.int .i64 x164000_1, .int .i64 x164001_1] 36 (0, 0)) (by exact BK163.out)) : gb163 ≠ gb179))
                      have n11_ := Aside0.mk ((by rw [hg]; exact Nat.ne_of_gt (blk_lt (g := gb163) (o := .cells #[.int .i64 x164000_1, .int .i64 x164001_1] 36 (0, 0)) (by exact BK163.out)) : gb179 ≠ gb163))
                      have n12_ := Aside0.mk ((by rw [hg]; exact Nat.ne_of_lt (blk_lt (g := gb169) (o := .cells #[.bool t164, .bool t165, .int .u32 t166, .int .u32 t167] 24 (0, 0)) (by exact BK169.out)) : gb169 ≠ gb179))
                      have n13_ := Aside0.mk ((by rw [hg]; exact Nat.ne_of_gt (blk_lt (g := gb169) (o := .cells #[.bool t164, .bool t165, .int .u32 t166, .int .u32 t167] 24 (0, 0)) (by exact BK169.out)) : gb179 ≠ gb169))
                      clear HO_7
                      clear BK162
                      clear BK163
                      clear BK169
                      clear HB
                      have HO_7 := n0_
                      have BK162 := n1_
                      have BK163 := n2_
                      have BK169 := n3_
                      have HB := n4_
                      have BK179 := n5_
                      have GW179 := n6_
                      have GE179 := n7_
                      have NB162_179 := n8_
                      have NB179_162 := n9_
                      have NB163_179 := n10_
                      have NB179_163 := n11_
                      have NB169_179 := n12_
                      have NB179_169 := n13_
                      clear n0_ n1_ n2_ n3_ n4_ n5_ n6_ n7_ n8_ n9_ n10_ n11_ n12_ n13_
                      clear hb hbox hg
                      refine hK.out _ _ ⟨(blk_cell BK169.out 0).trans rfl, (blk_cell BK169.out 1).trans rfl, (blk_cell BK169.out 2).trans rfl, (blk_cell BK169.out 3).trans rfl⟩ (fun hHeld => ?_)
                      clear hK K
                      refine norm_ (a' := ?_) ?_ ?_
                      rotate_left
                      · show Act.put _ (some 9) _ = _
                        simp only [Act.put, List.setIfInBounds_toArray, List.set_cons_zero, List.set_cons_succ, i64_w, i32_w]
                        rfl
                      refine one_ (i := 5) (N := some 32) #[true, true, true, true, true, true, false, false, false, false, true, false, false, false] rfl rfl (one_of HT_.out (by kernel_rfl)) (by decide) (fun K hK => ?_)
                      refine goes_ Try.func24 (by kernel_rfl) rfl #[.slice A18 (l0.drop (x8_1 : Int).toNat).length (c0 - x8_1.toNat), .bool t164] (by rfl) rfl rfl (by (try simp only [List.map_toArray, List.map_cons, List.map_nil]); (rw [show (l0.drop (x8_1 : Int).toNat).length = (l0.length - x8_1.toNat) from List.length_drop] <;> rfl)) ?_
                      with_reducible refine (pcap_Next.calls k1 _ _ (l0.drop (x8_1 : Int).toNat) t164 t171 t172 t173 t174 t177 t178 _ ?side1 ?side2 A14.out).mono ?_
                      (case side1 => exact (Kd.C_below HR170.out HB.out))
                      (case side2 => exact HC170.out)
                      rintro e w20 ⟨v175, rfl, ho0, hb⟩
                      refine ⟨_, rfl, ?_⟩
                      have n0_ := Aside0.mk (Kd.S_elder' (by exact HO_7.out) (by (exact Kd.R_base ho0)) hb)
                      have n1_ := Aside0.mk (Kd.R_lower ho0 (below_size (by exact HB.out)))
                      have n2_ := Aside0.mk (blk_below (g := gb162) (o := .cells #[.bool x163000_1, .bool x163001_1, .int .u32 x163002_1, .int .u32 x163003_1] 24 (0, 0)) (by exact BK162.out) hb)
                      have n3_ := Aside0.mk (blk_below (g := gb163) (o := .cells #[.int .i64 x164000_1, .int .i64 x164001_1] 36 (0, 0)) (by exact BK163.out) hb)
                      have n4_ := Aside0.mk (blk_below (g := gb169) (o := .cells #[.bool t164, .bool t165, .int .u32 t166, .int .u32 t167] 24 (0, 0)) (by exact BK169.out) hb)
                      have n5_ := Aside0.mk (blk_below (g := gb179) (o := .cells #[.int .u32 0, .int .u32 0, .int .u32 0, .slice none 0 0] 46 (0, 0)) (by exact BK179.out) hb)
                      have n6_ := Aside0.mk (below_step (by exact HB.out) hb)
                      clear HO_7
                      clear BK162
                      clear BK163
                      clear BK169
                      clear BK179
                      clear HB
                      have HO_7 := n0_
                      have HO176 := n1_
                      have BK162 := n2_
                      have BK163 := n3_
                      have BK169 := n4_
                      have BK179 := n5_
                      have HB := n6_
                      clear n0_ n1_ n2_ n3_ n4_ n5_ n6_
                      (try clear hb)
                      (skip)
                      (skip)
                      (skip)
                      (try clear ho0)
                      refine hK.out _ _ ⟨(blk_cell BK169.out 0).trans rfl, (blk_cell BK169.out 1).trans rfl, (blk_cell BK169.out 2).trans rfl, (blk_cell BK169.out 3).trans rfl⟩ (fun hHeld => ?_)
                      clear hK K
                      refine norm_ (a' := ?_) ?_ ?_
                      rotate_left
                      · show Act.put _ (some 32) _ = _
                        simp only [Act.put, List.setIfInBounds_toArray, List.set_cons_zero, List.set_cons_succ, i64_w, i32_w]
                        rfl
                      refine pure_ (i := 6) (N := some 26) (v := ?_) (a' := ?_) #[true, true, true, true, true, true, true, false, false, false, true, false, false, false] rfl rfl (any_of HT_.out (by kernel_rfl)) (fun _ _ _ h => h) (Or.inl ⟨by rfl, ?_⟩) ?_ ?_
                      rotate_left
                      · intro w'
                        go_simp
                        with_reducible rfl
                      rotate_left
                      · simp only [Act.put, List.setIfInBounds_toArray, List.set_cons_zero, List.set_cons_succ, i64_w, i32_w]
                        rfl
                      refine pure_ (i := 7) (N := some 33) (v := ?_) (a' := ?_) #[true, true, true, true, true, true, true, true, false, false, true, false, false, false] rfl rfl (any_of HT_.out (by kernel_rfl)) (fun _ _ _ h => h) (Or.inl ⟨by rfl, ?_⟩) ?_ ?_
                      rotate_left
                      · intro w'
                        go_simp
                        with_reducible rfl
                      rotate_left
                      · simp only [Act.put, List.setIfInBounds_toArray, List.set_cons_zero, List.set_cons_succ, i64_w, i32_w]
                        rfl
                      refine pure_ (i := 8) (N := some 34) (v := ?_) (a' := ?_) #[true, true, true, true, true, true, true, true, true, false, true, false, false, false] rfl rfl (any_of HT_.out (by kernel_rfl)) (fun _ _ _ h => h) (Or.inl ⟨by rfl, ?_⟩) ?_ ?_
                      rotate_left
                      · intro w'
                        go_simp
                        with_reducible rfl
                      rotate_left
                      · simp only [Act.put, List.setIfInBounds_toArray, List.set_cons_zero, List.set_cons_succ, i64_w, i32_w]
                        rfl
                      refine pure_ (i := 9) (N := some 35) (v := ?_) (a' := ?_) #[true, true, true, true, true, true, true, true, true, true, true, false, false, false] rfl rfl (any_of HT_.out (by kernel_rfl)) (fun _ _ _ h => h) (Or.inl ⟨by rfl, ?_⟩) ?_ ?_
                      rotate_left
                      · intro w'
                        go_simp
                        with_reducible rfl
                      rotate_left
                      · simp only [Act.put, List.setIfInBounds_toArray, List.set_cons_zero, List.set_cons_succ, i64_w, i32_w]
                        rfl
                      exact norm_ (by simp only [putAll, Act.put, List.setIfInBounds_toArray, List.set_cons_zero, List.set_cons_succ]) (hCont (v175, gb179) _ ⟨hHeld, (by exact HO176.out), (by exact Kd.S_mono HO_7.out (fun _ hk => ⟨hk.2, hk.1.2⟩)), (by exact BK162.out), (by exact BK163.out), (by exact BK169.out), (by exact BK179.out), GW179.out, GE179.out, NB162_179.out, NB179_162.out, NB163_179.out, NB179_163.out, NB169_179.out, NB179_169.out, (by exact HB.out)⟩)
                  rintro ⟨v175, gb179⟩ w21 ⟨hS_, h0_, h1_, h2_, h3_, h4_, h5_, h6_, h7_, h8_, h9_, h10_, h11_, h12_, h13_, h14_⟩
                  have n0_ : Aside0 (Kd.R (Kd.int .u8) 5 w21 w.heap.size (fun _ => True) v175 t174) := ⟨h0_⟩
                  have n1_ : Aside0 (Kd.S k46 46 w21 w.heap.size (fun k_ => some k_ ≠ (v175 : Value).ownBlock ∧ k_ ≠ gb179) u7 x7_1) := ⟨h1_⟩
                  have n2_ : Aside0 (w21.heap[gb162]? = some (.cells #[.bool x163000_1, .bool x163001_1, .int .u32 x163002_1, .int .u32 x163003_1] 24 (0, 0))) := ⟨h2_⟩
                  have n3_ : Aside0 (w21.heap[gb163]? = some (.cells #[.int .i64 x164000_1, .int .i64 x164001_1] 36 (0, 0))) := ⟨h3_⟩
                  have n4_ : Aside0 (w21.heap[gb169]? = some (.cells #[.bool t164, .bool t165, .int .u32 t166, .int .u32 t167] 24 (0, 0))) := ⟨h4_⟩
                  have n5_ : Aside0 (w21.heap[gb179]? = some (.cells #[.int .u32 0, .int .u32 0, .int .u32 0, .slice none 0 0] 46 (0, 0))) := ⟨h5_⟩
                  have n6_ : Aside0 (w.heap.size ≤ gb179) := ⟨h6_⟩
                  have n7_ : Aside0 (w.heap.size ≤ gb179) := ⟨h7_⟩
                  have n8_ : Aside0 (gb162 ≠ gb179) := ⟨h8_⟩
                  have n9_ : Aside0 (gb179 ≠ gb162) := ⟨h9_⟩
                  have n10_ : Aside0 (gb163 ≠ gb179) := ⟨h10_⟩
                  have n11_ : Aside0 (gb179 ≠ gb163) := ⟨h11_⟩
                  have n12_ : Aside0 (gb169 ≠ gb179) := ⟨h12_⟩
                  have n13_ : Aside0 (gb179 ≠ gb169) := ⟨h13_⟩
                  have n14_ : Aside0 (Below w.heap.size w w21) := ⟨h14_⟩
                  clear HO_7
                  clear BK162
                  clear BK163
                  clear BK169
                  clear HB
                  clear h0_ h1_ h2_ h3_ h4_ h5_ h6_ h7_ h8_ h9_ h10_ h11_ h12_ h13_ h14_
                  have HO176 := n0_
                  have HO_7 := n1_
                  have BK162 := n2_
                  have BK163 := n3_
                  have BK169 := n4_
                  have BK179 := n5_
                  have GW179 := n6_
                  have GE179 := n7_
                  have NB162_179 := n8_
                  have NB179_162 := n9_
                  have NB163_179 := n10_
                  have NB179_163 := n11_
                  have NB169_179 := n12_
                  have NB179_169 := n13_
                  have HB := n14_
                  clear n0_ n1_ n2_ n3_ n4_ n5_ n6_ n7_ n8_ n9_ n10_ n11_ n12_ n13_ n14_
                  have hHeld : w21.cell? ⟨gb169, 0, none⟩ = some (.bool t164) ∧ w21.cell? ⟨gb169, 1, none⟩ = some (.bool t165) ∧ w21.cell? ⟨gb169, 2, none⟩ = some (.int .u32 t166) ∧ w21.cell? ⟨gb169, 3, none⟩ = some (.int .u32 t167) := hS_
                  obtain ⟨Ao25, co25, eo25⟩ := Kd.R_slice HO176.out
                  (subst eo25)
                  refine norm_ (a' := ?_) ?_ ?_
                  rotate_left
                  · simp only [putAll, Act.put, List.setIfInBounds_toArray, List.set_cons_zero, List.set_cons_succ]
                    rfl
                  refine one_ (i := 11) (N := none) #[true, true, true, true, true, true, true, true, true, true, true, true, false, false] rfl rfl (one_of HT_.out (by kernel_rfl)) (by decide) (fun K hK => ?_)
                  have hs22 : w21.cell? ⟨gb179, 0, none⟩ = some (.int .u32 0) := (blk_cell BK179.out 0).trans rfl
                  have hfs22 := blk_frozen BK179.out 0
                  have hns22_0 := NB162_179.out
                  have hns22_1 := NB163_179.out
                  have hns22_2 := NB169_179.out
                  have hms22_0 := NB179_162.out
                  have hms22_1 := NB179_163.out
                  have hms22_2 := NB179_169.out
                  have hs23 : w21.cell? ⟨gb179, 1, none⟩ = some (.int .u32 0) := (blk_cell BK179.out 1).trans rfl
                  have hfs23 := blk_frozen BK179.out 1
                  have hns23_0 := NB162_179.out
                  have hns23_1 := NB163_179.out
                  have hns23_2 := NB169_179.out
                  have hms23_0 := NB179_162.out
                  have hms23_1 := NB179_163.out
                  have hms23_2 := NB179_169.out
                  have hs24 : w21.cell? ⟨gb179, 2, none⟩ = some (.int .u32 0) := (blk_cell BK179.out 2).trans rfl
                  have hfs24 := blk_frozen BK179.out 2
                  have hns24_0 := NB162_179.out
                  have hns24_1 := NB163_179.out
                  have hns24_2 := NB169_179.out
                  have hms24_0 := NB179_162.out
                  have hms24_1 := NB179_163.out
                  have hms24_2 := NB179_169.out
                  have hs26 : w21.cell? ⟨gb179, 3, none⟩ = some (.slice none 0 0) := (blk_cell BK179.out 3).trans rfl
                  have hfs26 := blk_frozen BK179.out 3
                  have hns26_0 := NB162_179.out
                  have hns26_1 := NB163_179.out
                  have hns26_2 := NB169_179.out
                  have hms26_0 := NB179_162.out
                  have hms26_1 := NB179_163.out
                  have hms26_2 := NB179_169.out
                  refine skip_ (w1 := ?_) (by rfl) rfl ?_ ?_
                  rotate_left
                  · go_simp
                    rfl
                  refine hK.out _ _ ⟨((cell_far (p := ⟨gb179, _, none⟩) NB169_179.out _).trans (((cell_far (p := ⟨gb179, _, none⟩) NB169_179.out _).trans (((cell_far (p := ⟨gb179, _, none⟩) NB169_179.out _).trans (((cell_far (p := ⟨gb179, _, none⟩) NB169_179.out _).trans (hHeld.1)))))))), ((cell_far (p := ⟨gb179, _, none⟩) NB169_179.out _).trans (((cell_far (p := ⟨gb179, _, none⟩) NB169_179.out _).trans (((cell_far (p := ⟨gb179, _, none⟩) NB169_179.out _).trans (((cell_far (p := ⟨gb179, _, none⟩) NB169_179.out _).trans (hHeld.2.1)))))))), ((cell_far (p := ⟨gb179, _, none⟩) NB169_179.out _).trans (((cell_far (p := ⟨gb179, _, none⟩) NB169_179.out _).trans (((cell_far (p := ⟨gb179, _, none⟩) NB169_179.out _).trans (((cell_far (p := ⟨gb179, _, none⟩) NB169_179.out _).trans (hHeld.2.2.1)))))))), ((cell_far (p := ⟨gb179, _, none⟩) NB169_179.out _).trans (((cell_far (p := ⟨gb179, _, none⟩) NB169_179.out _).trans (((cell_far (p := ⟨gb179, _, none⟩) NB169_179.out _).trans (((cell_far (p := ⟨gb179, _, none⟩) NB169_179.out _).trans (hHeld.2.2.2))))))))⟩ (fun hHeld => ?_)
                  clear hK K
                  refine pure_ (i := 12) (N := some 10) (v := ?_) (a' := ?_) #[true, true, true, true, true, true, true, true, true, true, true, true, true, false] rfl rfl (any_of HT_.out (by kernel_rfl)) (fun _ _ _ h => h) (Or.inl ⟨by rfl, ?_⟩) ?_ ?_
                  rotate_left
                  · intro w'
                    go_simp
                    with_reducible rfl
                  rotate_left
                  · simp only [Act.put, List.setIfInBounds_toArray, List.set_cons_zero, List.set_cons_succ, i64_w, i32_w]
                    rfl
                  refine pure_ (i := 13) (N := some 11) (v := ?_) (a' := ?_) #[true, true, true, true, true, true, true, true, true, true, true, true, true, true] rfl rfl (any_of HT_.out (by kernel_rfl)) (fun _ _ _ h => h) (Or.inl ⟨by rfl, ?_⟩) ?_ ?_
                  rotate_left
                  · intro w'
                    go_simp
                    with_reducible rfl
                  rotate_left
                  · simp only [Act.put, List.setIfInBounds_toArray, List.set_cons_zero, List.set_cons_succ, i64_w, i32_w]
                    rfl
                  refine done_ (done_of HT_.out (by kernel_rfl)) ?_
                  have n0_ : Aside0 (Kd.S k46 46 ((((w21.setCell ⟨gb179, 0, none⟩ (.int .u32 t171)).setCell ⟨gb179, 1, none⟩ (.int .u32 t172)).setCell ⟨gb179, 2, none⟩ (.int .u32 t173)).setCell ⟨gb179, 3, none⟩ (.slice Ao25 t174.length co25)) w.heap.size (fun k_ => some k_ ≠ (.slice Ao25 t174.length co25 : Value).ownBlock ∧ k_ ≠ gb179) u7 x7_1) := ⟨by exact Kd.S_mono (Kd.S_far (p := ⟨gb179, 3, none⟩) (Kd.S_far (p := ⟨gb179, 2, none⟩) (Kd.S_far (p := ⟨gb179, 1, none⟩) (Kd.S_far (p := ⟨gb179, 0, none⟩) (Kd.S_mono HO_7.out (fun k_ hk => (⟨hk, hk.2⟩ : _ ∧ k_ ≠ gb179))) (fun _ hk => hk.2) (.int .u32 t171)) (fun _ hk => hk.2) (.int .u32 t172)) (fun _ hk => hk.2) (.int .u32 t173)) (fun _ hk => hk.2) (.slice Ao25 t174.length co25)) (fun _ hk => ⟨hk.1.1, hk.1.2⟩)⟩
                  have n1_ : Aside0 (Kd.R (Kd.int .u8) 5 ((((w21.setCell ⟨gb179, 0, none⟩ (.int .u32 t171)).setCell ⟨gb179, 1, none⟩ (.int .u32 t172)).setCell ⟨gb179, 2, none⟩ (.int .u32 t173)).setCell ⟨gb179, 3, none⟩ (.slice Ao25 t174.length co25)) w.heap.size (fun _ => True) (.slice Ao25 t174.length co25) t174) := ⟨by exact Kd.R_mono (Kd.R_far (p := ⟨gb179, 3, none⟩) (Kd.R_far (p := ⟨gb179, 2, none⟩) (Kd.R_far (p := ⟨gb179, 1, none⟩) (Kd.R_far (p := ⟨gb179, 0, none⟩) (Kd.R_types HO176.out BK179.out (by decide)) (fun _ hk => hk.2) (.int .u32 t171)) (fun _ hk => hk.2) (.int .u32 t172)) (fun _ hk => hk.2) (.int .u32 t173)) (fun _ hk => hk.2) (.slice Ao25 t174.length co25)) (fun _ hk => trivial)⟩
                  have n2_ : Aside0 (((((w21.setCell ⟨gb179, 0, none⟩ (.int .u32 t171)).setCell ⟨gb179, 1, none⟩ (.int .u32 t172)).setCell ⟨gb179, 2, none⟩ (.int .u32 t173)).setCell ⟨gb179, 3, none⟩ (.slice Ao25 t174.length co25)).heap[gb162]? = some (.cells #[.bool x163000_1, .bool x163001_1, .int .u32 x163002_1, .int .u32 x163003_1] 24 (0, 0))) := ⟨by refine blk_far ?_ NB162_179.out _; refine blk_far ?_ NB162_179.out _; refine blk_far ?_ NB162_179.out _; refine blk_far ?_ NB162_179.out _; exact BK162.out⟩
                  have n3_ : Aside0 (((((w21.setCell ⟨gb179, 0, none⟩ (.int .u32 t171)).setCell ⟨gb179, 1, none⟩ (.int .u32 t172)).setCell ⟨gb179, 2, none⟩ (.int .u32 t173)).setCell ⟨gb179, 3, none⟩ (.slice Ao25 t174.length co25)).heap[gb163]? = some (.cells #[.int .i64 x164000_1, .int .i64 x164001_1] 36 (0, 0))) := ⟨by refine blk_far ?_ NB163_179.out _; refine blk_far ?_ NB163_179.out _; refine blk_far ?_ NB163_179.out _; refine blk_far ?_ NB163_179.out _; exact BK163.out⟩
                  have n4_ : Aside0 (((((w21.setCell ⟨gb179, 0, none⟩ (.int .u32 t171)).setCell ⟨gb179, 1, none⟩ (.int .u32 t172)).setCell ⟨gb179, 2, none⟩ (.int .u32 t173)).setCell ⟨gb179, 3, none⟩ (.slice Ao25 t174.length co25)).heap[gb169]? = some (.cells #[.bool t164, .bool t165, .int .u32 t166, .int .u32 t167] 24 (0, 0))) := ⟨by refine blk_far ?_ NB169_179.out _; refine blk_far ?_ NB169_179.out _; refine blk_far ?_ NB169_179.out _; refine blk_far ?_ NB169_179.out _; exact BK169.out⟩
                  have n5_ : Aside0 (((((w21.setCell ⟨gb179, 0, none⟩ (.int .u32 t171)).setCell ⟨gb179, 1, none⟩ (.int .u32 t172)).setCell ⟨gb179, 2, none⟩ (.int .u32 t173)).setCell ⟨gb179, 3, none⟩ (.slice Ao25 t174.length co25)).heap[gb179]? = some (.cells #[.int .u32 t171, .int .u32 t172, .int .u32 t173, .slice Ao25 t174.length co25] 46 (0, 0))) := ⟨by refine blk_put (cs := #[.int .u32 t171, .int .u32 t172, .int .u32 t173, .slice none 0 0]) ?_ 3 _ rfl; refine blk_put (cs := #[.int .u32 t171, .int .u32 t172, .int .u32 0, .slice none 0 0]) ?_ 2 _ rfl; refine blk_put (cs := #[.int .u32 t171, .int .u32 0, .int .u32 0, .slice none 0 0]) ?_ 1 _ rfl; refine blk_put (cs := #[.int .u32 0, .int .u32 0, .int .u32 0, .slice none 0 0]) ?_ 0 _ rfl; exact BK179.out⟩
                  have n6_ : Aside0 (Below w.heap.size w ((((w21.setCell ⟨gb179, 0, none⟩ (.int .u32 t171)).setCell ⟨gb179, 1, none⟩ (.int .u32 t172)).setCell ⟨gb179, 2, none⟩ (.int .u32 t173)).setCell ⟨gb179, 3, none⟩ (.slice Ao25 t174.length co25))) := ⟨by repeat (with_reducible first | exact HB.out | refine below_set ?_ GE179.out)⟩
                  (try clear HO_7)
                  (try clear HO176)
                  (try clear BK162)
                  (try clear BK163)
                  (try clear BK169)
                  (try clear BK179)
                  (try clear HB)
                  generalize ((((w21.setCell ⟨gb179, 0, none⟩ (.int .u32 t171)).setCell ⟨gb179, 1, none⟩ (.int .u32 t172)).setCell ⟨gb179, 2, none⟩ (.int .u32 t173)).setCell ⟨gb179, 3, none⟩ (.slice Ao25 t174.length co25)) = w27 at n0_ n1_ n2_ n3_ n4_ n5_ n6_ ⊢
                  have HO_7 := n0_
                  have HO176 := n1_
                  have BK162 := n2_
                  have BK163 := n3_
                  have BK169 := n4_
                  have BK179 := n5_
                  have HB := n6_
                  clear n0_ n1_ n2_ n3_ n4_ n5_ n6_
                  have hnb28 := NB179_162.out
                  have hnc28 := NB162_179.out
                  have hnb29 := NB179_163.out
                  have hnc29 := NB163_179.out
                  have hnb30 := NB179_169.out
                  have hnc30 := NB169_179.out
                  have hcz31_0 : w27.cell? ⟨gb179, 0, none⟩ = some (.int .u32 t171) := (blk_cell BK179.out 0).trans rfl
                  have hcz31_1 : w27.cell? ⟨gb179, 1, none⟩ = some (.int .u32 t172) := (blk_cell BK179.out 1).trans rfl
                  have hcz31_2 : w27.cell? ⟨gb179, 2, none⟩ = some (.int .u32 t173) := (blk_cell BK179.out 2).trans rfl
                  have hcz31_3 : w27.cell? ⟨gb179, 3, none⟩ = some (.slice Ao25 t174.length co25) := (blk_cell BK179.out 3).trans rfl
                  have hfz31_0 := blk_frozen BK179.out 0
                  have hfz31_1 := blk_frozen BK179.out 1
                  have hfz31_2 := blk_frozen BK179.out 2
                  have hfz31_3 := blk_frozen BK179.out 3
                  try go_wp2_with (first | ((with_reducible refine gate_builtin (b := .append) (xs := #[.tmp 43, .tmp 45]) rfl ?_); at_builtin; refine Kd.S_append k46 (w0 := w) w.heap.size rfl (.tmp 43) (.tmp 45) 25 46 (.agg #[(.int .u32 0), (.int .u32 0), (.int .u32 0), (.slice none 0 0)]) 40 rfl Try.underlying25 info46 rfl (by decide) (by omega) u7 x7_1 (⟨t171, t172, t173, t174⟩ : S46) [.int .u32 t171, .int .u32 t172, .int .u32 t173, .slice Ao25 t174.length co25] (fun k_ => k_ ≠ gb179) (fun k_ => some k_ = (.slice Ao25 t174.length co25 : Value).ownBlock) rfl rfl ?aP (fun k_ hk_ => ((Kd.R_mono (ok' := fun k_ => (fun k_ => k_ ≠ gb179) k_ ∧ some k_ ≠ (u7 : Value).ownBlock) (Kd.R_types (Kd.R_apart' (HO176.out) (Kd.S_typed HO_7.out) (by decide)) BK179.out (by decide)) (fun k_ hk => ⟨hk.2, hk.1.2⟩))).1 k_ hk_.symm) ?aF ?aO ?aB ?aS ?aL ?_; (case aP => exact k46_mkM _ _ _ (⟨t171, t172, t173, t174⟩ : S46) (Kd.R_mono (Kd.R_tight rfl (Kd.R_mono (ok' := fun k_ => (fun k_ => k_ ≠ gb179) k_ ∧ some k_ ≠ (u7 : Value).ownBlock) (Kd.R_types (Kd.R_apart' (HO176.out) (Kd.S_typed HO_7.out) (by decide)) BK179.out (by decide)) (fun k_ hk => ⟨hk.2, hk.1.2⟩))) (fun _ h_ => h_))); (case aB => exact (by exact HB.out)); (case aF => exact (fun k_ hk => Kd.freshB (g := gb179) (o := .cells #[.int .u32 t171, .int .u32 t172, .int .u32 t173, .slice Ao25 t174.length co25] 46 (0, 0)) (by exact BK179.out) k_ hk)); (case aO => exact (by exact Kd.S_mono HO_7.out (fun k_ hk => ⟨hk.2, fun e_ => hk.1 e_⟩))); (case aS => exact (below_size (by exact HB.out))); (case aL => have := LMc16.out; omega); intro v181 w32 ho hb hg hat; rw [← Ny180.out] at ho; have n0_ := Aside0.mk (blk_grown (g := gb162) (o := .cells #[.bool x163000_1, .bool x163001_1, .int .u32 x163002_1, .int .u32 x163003_1] 24 (0, 0)) (by exact BK162.out) hg (Kd.S_ne HO_7.out BK162.out (by decide))); have n1_ := Aside0.mk (blk_grown (g := gb163) (o := .cells #[.int .i64 x164000_1, .int .i64 x164001_1] 36 (0, 0)) (by exact BK163.out) hg (Kd.S_ne HO_7.out BK163.out (by decide))); have n2_ := Aside0.mk (blk_grown (g := gb169) (o := .cells #[.bool t164, .bool t165, .int .u32 t166, .int .u32 t167] 24 (0, 0)) (by exact BK169.out) hg (Kd.S_ne HO_7.out BK169.out (by decide))); have n3_ := Aside0.mk (blk_grown (g := gb179) (o := .cells #[.int .u32 t171, .int .u32 t172, .int .u32 t173, .slice Ao25 t174.length co25] 46 (0, 0)) (by exact BK179.out) hg (Kd.S_away HO_7.out (fun _ hk => hk.2))); have n4_ := Aside0.mk (hb); have n5_ := Aside0.mk (ho); clear BK162; clear BK163; clear BK169; clear BK179; clear HB; clear HO_7; clear HO176; have BK162 := n0_; have BK163 := n1_; have BK169 := n2_; have BK179 := n3_; have HB := n4_; have HO182 := n5_; clear n0_ n1_ n2_ n3_ n4_ n5_; clear ho hb hg hat))
                  go_roundg k1
                  case measure => have := HK1.out; omega
                  case rel => exact ⟨(y180), (wrap64 (x8_1 + t177)), (x163000_1), (x163001_1), (x163002_1), (x163003_1), (x164000_1), (x164001_1), (by (rfl)), H', ⟨by have := HK1.out; omega⟩, ⟨by exact Kd.S_mono HO182.out (fun _ hk => trivial)⟩, ⟨by exact BK162.out⟩, ⟨by exact BK163.out⟩, ⟨by exact BK169.out⟩, ⟨by exact HB.out⟩⟩
                · rw [if_neg c16] at H
                  exact absurd H (by simp)
              · rw [if_neg c15] at H
                have c15b0 : (t178 == 0) = false := beq_eq_false_iff_ne.mpr c15
                have c15b1 : (t178 != 0) = true := bne_iff_ne.mpr c15
                simp only [Option.some.injEq, Prod.mk.injEq] at H
                obtain ⟨rfl, rfl, rfl, rfl, rfl, rfl, rfl⟩ := H
                try go_wp2
                have n0_ := Aside0.mk (Kd.S_drew HO_7.out)
                have n1_ := Aside0.mk (blk_drew BK162.out)
                have n2_ := Aside0.mk (blk_drew BK163.out)
                have n3_ := Aside0.mk (blk_drew BK169.out)
                have n4_ := Aside0.mk (below_drew1 HB.out)
                clear HO_7
                clear BK162
                clear BK163
                clear BK169
                clear HB
                have HO_7 := n0_
                have BK162 := n1_
                have BK163 := n2_
                have BK169 := n3_
                have HB := n4_
                clear n0_ n1_ n2_ n3_ n4_
                obtain ⟨i034, hi034, _, hsz34, _⟩ := info_parts info5
                obtain ⟨A34, hcut34, hA34, hC34⟩ := print_drop_of (P := Try.prog) (Value.int .u8) 0 28 5 .i64 Try.underlying28 hi034 hsz34 A0 c0 l0 x8_1 (of_decide_eq_true (by (with_reducible assumption))) (of_decide_eq_true (by (with_reducible assumption))) HC0.out
                have HR170 := Aside0.mk (Kd.C_of_reads (h1 := fun _ => rfl) (hA34 _ (Kd.reads_of_C HR0.out)))
                have HC170 := Aside0.mk hC34
                clear hA34 hC34 hi034 hsz34
                refine start_ (n := 14) (S := fun w' => w'.cell? ⟨gb169, 0, none⟩ = some (.bool t164) ∧ w'.cell? ⟨gb169, 1, none⟩ = some (.bool t165) ∧ w'.cell? ⟨gb169, 2, none⟩ = some (.int .u32 t166) ∧ w'.cell? ⟨gb169, 3, none⟩ = some (.int .u32 t167)) (ds := []) #[false, false, false, false, false, false, false, false, false, false, false, false, false, false] (by kernel_rfl) rfl rfl ⟨(blk_cell BK169.out 0).trans rfl, (blk_cell BK169.out 1).trans rfl, (blk_cell BK169.out 2).trans rfl, (blk_cell BK169.out 3).trans rfl⟩ (fun hHeld => ?_); refine with_tabW pcap_Read.tab7 pcap_Read.bits7 (fun HT_ HW_ => ?_)
                generalize wr.drew = w33 at HO_7 BK162 BK163 BK169 HB HR170 hHeld ⊢
                refine pure_ (i := 0) (N := some 27) (v := ?_) (a' := ?_) #[true, false, false, false, false, false, false, false, false, false, false, false, false, false] rfl rfl (any_of HT_.out (by kernel_rfl)) (fun _ _ _ h => h) (Or.inl ⟨by rfl, ?_⟩) ?_ ?_
                rotate_left
                · intro w'
                  go_simp
                  with_reducible rfl
                rotate_left
                · simp only [Act.put, List.setIfInBounds_toArray, List.set_cons_zero, List.set_cons_succ, i64_w, i32_w]
                  rfl
                refine pure_ (i := 1) (N := some 28) (v := ?_) (a' := ?_) #[true, true, false, false, false, false, false, false, false, false, false, false, false, false] rfl rfl (any_of HT_.out (by kernel_rfl)) (fun _ _ _ h => h) (Or.inl ⟨by rfl, ?_⟩) ?_ ?_
                rotate_left
                · intro w'
                  go_simp
                  with_reducible rfl
                rotate_left
                · simp only [Act.put, List.setIfInBounds_toArray, List.set_cons_zero, List.set_cons_succ, i64_w, i32_w]
                  rfl
                refine pure_ (i := 2) (N := some 29) (v := ?_) (a' := ?_) #[true, true, true, false, false, false, false, false, false, false, false, false, false, false] rfl rfl (any_of HT_.out (by kernel_rfl)) (fun _ _ _ h => h) (Or.inl ⟨by rfl, ?_⟩) ?_ ?_
                rotate_left
                · intro w'
                  go_simp
                  with_reducible rfl
                rotate_left
                · simp only [Act.put, List.setIfInBounds_toArray, List.set_cons_zero, List.set_cons_succ, i64_w, i32_w]
                  rfl
                refine pure_ (i := 3) (N := some 30) (v := ?_) (a' := ?_) #[true, true, true, true, false, false, false, false, false, false, false, false, false, false] rfl rfl (any_of HT_.out (by kernel_rfl)) (fun _ _ _ h => h) (Or.inl ⟨by rfl, ?_⟩) ?_ ?_
                rotate_left
                · intro w'
                  go_simp
                  with_reducible rfl
                rotate_left
                · simp only [Act.put, List.setIfInBounds_toArray, List.set_cons_zero, List.set_cons_succ, i64_w, i32_w]
                  rfl
                refine take_ (i := 4) (N := some 31) (v := ?_) (a' := ?_) #[true, true, true, true, true, false, false, false, false, false, false, false, false, false] rfl rfl (take_ofW HT_.out HW_.out (by kernel_rfl)) (fun _ _ _ h => h) (Or.inl ⟨by rfl, ?_⟩) hHeld ?_ ?_
                rotate_left
                · rintro w' ⟨s0, s1, s2, s3⟩
                  go_simp
                  with_reducible rfl
                rotate_left
                · simp only [Act.put, List.setIfInBounds_toArray, List.set_cons_zero, List.set_cons_succ, i64_w, i32_w]
                  rfl
                refine join_ (σ := Value × Nat) 3 #[true, true, true, true, true, true, true, true, true, true, true, false, false, false] (fun s_ => [(32, .tuple #[.agg #[.int .u32 t171, .int .u32 t172, .int .u32 t173, s_.1], .int .i64 t177, .int .i64 t178]), (9, .pointer (some ⟨s_.2, 0, none⟩)), (26, .tuple #[.agg #[.int .u32 t171, .int .u32 t172, .int .u32 t173, s_.1], .int .i64 t177, .int .i64 t178]), (33, .agg #[.int .u32 t171, .int .u32 t172, .int .u32 t173, s_.1]), (34, .int .i64 t177), (35, .int .i64 t178)]) (fun s_ w' => (w'.cell? ⟨gb169, 0, none⟩ = some (.bool t164) ∧ w'.cell? ⟨gb169, 1, none⟩ = some (.bool t165) ∧ w'.cell? ⟨gb169, 2, none⟩ = some (.int .u32 t166) ∧ w'.cell? ⟨gb169, 3, none⟩ = some (.int .u32 t167)) ∧ (Kd.R (Kd.int .u8) 5 w' w.heap.size (fun _ => True) s_.1 t174) ∧ (Kd.S k46 46 w' w.heap.size (fun k_ => some k_ ≠ (s_.1 : Value).ownBlock ∧ k_ ≠ s_.2) u7 x7_1) ∧ (w'.heap[gb162]? = some (.cells #[.bool x163000_1, .bool x163001_1, .int .u32 x163002_1, .int .u32 x163003_1] 24 (0, 0))) ∧ (w'.heap[gb163]? = some (.cells #[.int .i64 x164000_1, .int .i64 x164001_1] 36 (0, 0))) ∧ (w'.heap[gb169]? = some (.cells #[.bool t164, .bool t165, .int .u32 t166, .int .u32 t167] 24 (0, 0))) ∧ (w'.heap[s_.2]? = some (.cells #[.int .u32 0, .int .u32 0, .int .u32 0, .slice none 0 0] 46 (0, 0))) ∧ (w.heap.size ≤ s_.2) ∧ (w.heap.size ≤ s_.2) ∧ (gb162 ≠ s_.2) ∧ (s_.2 ≠ gb162) ∧ (gb163 ≠ s_.2) ∧ (s_.2 ≠ gb163) ∧ (gb169 ≠ s_.2) ∧ (s_.2 ≠ gb169) ∧ (Below w.heap.size w w')) ?_ ?_
                rotate_left
                · intro hCont
                  refine two_ (i := 5) (j := 10) (Ni := some 32) (Nj := some 9) #[true, true, true, true, true, true, false, false, false, false, false, false, false, false] #[true, true, true, true, true, false, false, false, false, false, true, false, false, false] rfl rfl rfl rfl (two_of HT_.out (by kernel_rfl)) (by decide) (by decide) (fun K hK => ?_) (fun K hK => ?_)
                  · skip
                    refine goes_ Try.func24 (by kernel_rfl) rfl #[.slice A34 (l0.drop (x8_1 : Int).toNat).length (c0 - x8_1.toNat), .bool t164] (by rfl) rfl rfl (by (try simp only [List.map_toArray, List.map_cons, List.map_nil]); (rw [show (l0.drop (x8_1 : Int).toNat).length = (l0.length - x8_1.toNat) from List.length_drop] <;> rfl)) ?_
                    with_reducible refine (pcap_Next.calls k1 _ _ (l0.drop (x8_1 : Int).toNat) t164 t171 t172 t173 t174 t177 t178 _ ?side1 ?side2 A14.out).mono ?_
                    (case side1 => exact (Kd.C_below HR170.out HB.out))
                    (case side2 => exact HC170.out)
                    rintro e w35 ⟨v175, rfl, ho0, hb⟩
                    refine ⟨_, rfl, ?_⟩
                    have n0_ := Aside0.mk (Kd.S_elder' (by exact HO_7.out) (by (exact Kd.R_base ho0)) hb)
                    have n1_ := Aside0.mk (Kd.R_lower ho0 (below_size (by exact HB.out)))
                    have n2_ := Aside0.mk (blk_below (g := gb162) (o := .cells #[.bool x163000_1, .bool x163001_1, .int .u32 x163002_1, .int .u32 x163003_1] 24 (0, 0)) (by exact BK162.out) hb)
                    have n3_ := Aside0.mk (blk_below (g := gb163) (o := .cells #[.int .i64 x164000_1, .int .i64 x164001_1] 36 (0, 0)) (by exact BK163.out) hb)
                    have n4_ := Aside0.mk (blk_below (g := gb169) (o := .cells #[.bool t164, .bool t165, .int .u32 t166, .int .u32 t167] 24 (0, 0)) (by exact BK169.out) hb)
                    have n5_ := Aside0.mk (below_step (by exact HB.out) hb)
                    clear HO_7
                    clear BK162
                    clear BK163
                    clear BK169
                    clear HB
                    have HO_7 := n0_
                    have HO176 := n1_
                    have BK162 := n2_
                    have BK163 := n3_
                    have BK169 := n4_
                    have HB := n5_
                    clear n0_ n1_ n2_ n3_ n4_ n5_
                    (try clear hb)
                    (skip)
                    (skip)
                    (skip)
                    (try clear ho0)
                    refine hK.out _ _ ⟨(blk_cell BK169.out 0).trans rfl, (blk_cell BK169.out 1).trans rfl, (blk_cell BK169.out 2).trans rfl, (blk_cell BK169.out 3).trans rfl⟩ (fun hHeld => ?_)
                    clear hK K
                    refine norm_ (a' := ?_) ?_ ?_
                    rotate_left
                    · show Act.put _ (some 32) _ = _
                      simp only [Act.put, List.setIfInBounds_toArray, List.set_cons_zero, List.set_cons_succ, i64_w, i32_w]
                      rfl
                    refine pure_ (i := 6) (N := some 26) (v := ?_) (a' := ?_) #[true, true, true, true, true, true, true, false, false, false, false, false, false, false] rfl rfl (any_of HT_.out (by kernel_rfl)) (fun _ _ _ h => h) (Or.inl ⟨by rfl, ?_⟩) ?_ ?_
                    rotate_left
                    · intro w'
                      go_simp
                      with_reducible rfl
                    rotate_left
                    · simp only [Act.put, List.setIfInBounds_toArray, List.set_cons_zero, List.set_cons_succ, i64_w, i32_w]
                      rfl
                    refine pure_ (i := 7) (N := some 33) (v := ?_) (a' := ?_) #[true, true, true, true, true, true, true, true, false, false, false, false, false, false] rfl rfl (any_of HT_.out (by kernel_rfl)) (fun _ _ _ h => h) (Or.inl ⟨by rfl, ?_⟩) ?_ ?_
                    rotate_left
                    · intro w'
                      go_simp
                      with_reducible rfl
                    rotate_left
                    · simp only [Act.put, List.setIfInBounds_toArray, List.set_cons_zero, List.set_cons_succ, i64_w, i32_w]
                      rfl
                    refine pure_ (i := 8) (N := some 34) (v := ?_) (a' := ?_) #[true, true, true, true, true, true, true, true, true, false, false, false, false, false] rfl rfl (any_of HT_.out (by kernel_rfl)) (fun _ _ _ h => h) (Or.inl ⟨by rfl, ?_⟩) ?_ ?_
                    rotate_left
                    · intro w'
                      go_simp
                      with_reducible rfl
                    rotate_left
                    · simp only [Act.put, List.setIfInBounds_toArray, List.set_cons_zero, List.set_cons_succ, i64_w, i32_w]
                      rfl
                    refine pure_ (i := 9) (N := some 35) (v := ?_) (a' := ?_) #[true, true, true, true, true, true, true, true, true, true, false, false, false, false] rfl rfl (any_of HT_.out (by kernel_rfl)) (fun _ _ _ h => h) (Or.inl ⟨by rfl, ?_⟩) ?_ ?_
                    rotate_left
                    · intro w'
                      go_simp
                      with_reducible rfl
                    rotate_left
                    · simp only [Act.put, List.setIfInBounds_toArray, List.set_cons_zero, List.set_cons_succ, i64_w, i32_w]
                      rfl
                    refine one_ (i := 10) (N := some 9) #[true, true, true, true, true, true, true, true, true, true, true, false, false, false] rfl rfl (one_of HT_.out (by kernel_rfl)) (by decide) (fun K hK => ?_)
                    refine box_step ?hg (N := 9) ?hd (cs := #[.int .u32 0, .int .u32 0, .int .u32 0, .slice none 0 0]) (t := 46) ?hr ?_; (case hd => rfl); (case hg => rfl); (case hr => (go_simp; done))
                    intro gb179 hg w36 hbox hb
                    have n0_ := Aside0.mk (Kd.S_below (Kd.S_elderB (by exact HO_7.out) gb179 (Nat.le_of_eq hg.symm)) hb)
                    have n1_ := Aside0.mk (Kd.R_below (by exact HO176.out) hb)
                    have n2_ := Aside0.mk (blk_below (g := gb162) (o := .cells #[.bool x163000_1, .bool x163001_1, .int .u32 x163002_1, .int .u32 x163003_1] 24 (0, 0)) (by exact BK162.out) hb)
                    have n3_ := Aside0.mk (blk_below (g := gb163) (o := .cells #[.int .i64 x164000_1, .int .i64 x164001_1] 36 (0, 0)) (by exact BK163.out) hb)
                    have n4_ := Aside0.mk (blk_below (g := gb169) (o := .cells #[.bool t164, .bool t165, .int .u32 t166, .int .u32 t167] 24 (0, 0)) (by exact BK169.out) hb)
                    have n5_ := Aside0.mk (below_step (by exact HB.out) hb)
                    have n6_ := Aside0.mk (hbox)
                    have n7_ := Aside0.mk ((by rw [hg]; exact (below_size (by exact HB.out)) : w.heap.size ≤ gb179))
                    have n8_ := Aside0.mk ((by rw [hg]; exact (below_size (by exact HB.out)) : w.heap.size ≤ gb179))
                    have n9_ := Aside0.mk ((by rw [hg]; exact Nat.ne_of_lt (blk_lt (g := gb162) (o := .cells #[.bool x163000_1, .bool x163001_1, .int .u32 x163002_1, .int .u32 x163003_1] 24 (0, 0)) (by exact BK162.out)) : gb162 ≠ gb179))
                    have n10_ := Aside0.mk ((by rw [hg]; exact Nat.ne_of_gt (blk_lt (g := gb162) (o := .cells #[.bool x163000_1, .bool x163001_1, .int .u32 x163002_1, .int .u32 x163003_1] 24 (0, 0)) (by exact BK162.out)) : gb179 ≠ gb162))
                    have n11_ := Aside0.mk ((by rw [hg]; exact Nat.ne_of_lt (blk_lt (g := gb163) (o := .cells #[.int .i64 x164000_1, .int .i64 x164001_1] 36 (0, 0)) (by exact BK163.out)) : gb163 ≠ gb179))
                    have n12_ := Aside0.mk ((by rw [hg]; exact Nat.ne_of_gt (blk_lt (g := gb163) (o := .cells #[.int .i64 x164000_1, .int .i64 x164001_1] 36 (0, 0)) (by exact BK163.out)) : gb179 ≠ gb163))
                    have n13_ := Aside0.mk ((by rw [hg]; exact Nat.ne_of_lt (blk_lt (g := gb169) (o := .cells #[.bool t164, .bool t165, .int .u32 t166, .int .u32 t167] 24 (0, 0)) (by exact BK169.out)) : gb169 ≠ gb179))
                    have n14_ := Aside0.mk ((by rw [hg]; exact Nat.ne_of_gt (blk_lt (g := gb169) (o := .cells #[.bool t164, .bool t165, .int .u32 t166, .int .u32 t167] 24 (0, 0)) (by exact BK169.out)) : gb179 ≠ gb169))
                    clear HO_7
                    clear HO176
                    clear BK162
                    clear BK163
                    clear BK169
                    clear HB
                    have HO_7 := n0_
                    have HO176 := n1_
                    have BK162 := n2_
                    have BK163 := n3_
                    have BK169 := n4_
                    have HB := n5_
                    have BK179 := n6_
                    have GW179 := n7_
                    have GE179 := n8_
                    have NB162_179 := n9_
                    have NB179_162 := n10_
                    have NB163_179 := n11_
                    have NB179_163 := n12_
                    have NB169_179 := n13_
                    have NB179_169 := n14_
                    clear n0_ n1_ n2_ n3_ n4_ n5_ n6_ n7_ n8_ n9_ n10_ n11_ n12_ n13_ n14_
                    clear hb hbox hg
                    refine hK.out _ _ ⟨(blk_cell BK169.out 0).trans rfl, (blk_cell BK169.out 1).trans rfl, (blk_cell BK169.out 2).trans rfl, (blk_cell BK169.out 3).trans rfl⟩ (fun hHeld => ?_)
                    clear hK K
                    refine norm_ (a' := ?_) ?_ ?_
                    rotate_left
                    · show Act.put _ (some 9) _ = _
                      simp only [Act.put, List.setIfInBounds_toArray, List.set_cons_zero, List.set_cons_succ, i64_w, i32_w]
                      rfl
                    exact norm_ (by simp only [putAll, Act.put, List.setIfInBounds_toArray, List.set_cons_zero, List.set_cons_succ]) (hCont (v175, gb179) _ ⟨hHeld, (by exact HO176.out), (by exact Kd.S_mono HO_7.out (fun _ hk => ⟨hk.1.2, hk.2⟩)), (by exact BK162.out), (by exact BK163.out), (by exact BK169.out), (by exact BK179.out), GW179.out, GE179.out, NB162_179.out, NB179_162.out, NB163_179.out, NB179_163.out, NB169_179.out, NB179_169.out, (by exact HB.out)⟩)
                  · skip
                    refine box_step ?hg (N := 9) ?hd (cs := #[.int .u32 0, .int .u32 0, .int .u32 0, .slice none 0 0]) (t := 46) ?hr ?_; (case hd => rfl); (case hg => rfl); (case hr => (go_simp; done))
                    intro gb179 hg w35 hbox hb
                    have n0_ := Aside0.mk (Kd.S_below (Kd.S_elderB (by exact HO_7.out) gb179 (Nat.le_of_eq hg.symm)) hb)
                    have n1_ := Aside0.mk (blk_below (g := gb162) (o := .cells #[.bool x163000_1, .bool x163001_1, .int .u32 x163002_1, .int .u32 x163003_1] 24 (0, 0)) (by exact BK162.out) hb)
                    have n2_ := Aside0.mk (blk_below (g := gb163) (o := .cells #[.int .i64 x164000_1, .int .i64 x164001_1] 36 (0, 0)) (by exact BK163.out) hb)
                    have n3_ := Aside0.mk (blk_below (g := gb169) (o := .cells #[.bool t164, .bool t165, .int .u32 t166, .int .u32 t167] 24 (0, 0)) (by exact BK169.out) hb)
                    have n4_ := Aside0.mk (below_step (by exact HB.out) hb)
                    have n5_ := Aside0.mk (hbox)
                    have n6_ := Aside0.mk ((by rw [hg]; exact (below_size (by exact HB.out)) : w.heap.size ≤ gb179))
                    have n7_ := Aside0.mk ((by rw [hg]; exact (below_size (by exact HB.out)) : w.heap.size ≤ gb179))
                    have n8_ := Aside0.mk ((by rw [hg]; exact Nat.ne_of_lt (blk_lt (g := gb162) (o := .cells #[.bool x163000_1, .bool x163001_1, .int .u32 x163002_1, .int .u32 x163003_1] 24 (0, 0)) (by exact BK162.out)) : gb162 ≠ gb179))
                    have n9_ := Aside0.mk ((by rw [hg]; exact Nat.ne_of_gt (blk_lt (g := gb162) (o := .cells #[.bool x163000_1, .bool x163001_1, .int .u32 x163002_1, .int .u32 x163003_1] 24 (0, 0)) (by exact BK162.out)) : gb179 ≠ gb162))
                    have n10_ := Aside0.mk ((by rw [hg]; exact Nat.ne_of_lt (blk_lt (g := gb163) (o := .cells #[.int .i64 x164000_1, .int .i64 x164001_1] 36 (0, 0)) (by exact BK163.out)) : gb163 ≠ gb179))
                    have n11_ := Aside0.mk ((by rw [hg]; exact Nat.ne_of_gt (blk_lt (g := gb163) (o := .cells #[.int .i64 x164000_1, .int .i64 x164001_1] 36 (0, 0)) (by exact BK163.out)) : gb179 ≠ gb163))
                    have n12_ := Aside0.mk ((by rw [hg]; exact Nat.ne_of_lt (blk_lt (g := gb169) (o := .cells #[.bool t164, .bool t165, .int .u32 t166, .int .u32 t167] 24 (0, 0)) (by exact BK169.out)) : gb169 ≠ gb179))
                    have n13_ := Aside0.mk ((by rw [hg]; exact Nat.ne_of_gt (blk_lt (g := gb169) (o := .cells #[.bool t164, .bool t165, .int .u32 t166, .int .u32 t167] 24 (0, 0)) (by exact BK169.out)) : gb179 ≠ gb169))
                    clear HO_7
                    clear BK162
                    clear BK163
                    clear BK169
                    clear HB
                    have HO_7 := n0_
                    have BK162 := n1_
                    have BK163 := n2_
                    have BK169 := n3_
                    have HB := n4_
                    have BK179 := n5_
                    have GW179 := n6_
                    have GE179 := n7_
                    have NB162_179 := n8_
                    have NB179_162 := n9_
                    have NB163_179 := n10_
                    have NB179_163 := n11_
                    have NB169_179 := n12_
                    have NB179_169 := n13_
                    clear n0_ n1_ n2_ n3_ n4_ n5_ n6_ n7_ n8_ n9_ n10_ n11_ n12_ n13_
                    clear hb hbox hg
                    refine hK.out _ _ ⟨(blk_cell BK169.out 0).trans rfl, (blk_cell BK169.out 1).trans rfl, (blk_cell BK169.out 2).trans rfl, (blk_cell BK169.out 3).trans rfl⟩ (fun hHeld => ?_)
                    clear hK K
                    refine norm_ (a' := ?_) ?_ ?_
                    rotate_left
                    · show Act.put _ (some 9) _ = _
                      simp only [Act.put, List.setIfInBounds_toArray, List.set_cons_zero, List.set_cons_succ, i64_w, i32_w]
                      rfl
                    refine one_ (i := 5) (N := some 32) #[true, true, true, true, true, true, false, false, false, false, true, false, false, false] rfl rfl (one_of HT_.out (by kernel_rfl)) (by decide) (fun K hK => ?_)
                    refine goes_ Try.func24 (by kernel_rfl) rfl #[.slice A34 (l0.drop (x8_1 : Int).toNat).length (c0 - x8_1.toNat), .bool t164] (by rfl) rfl rfl (by (try simp only [List.map_toArray, List.map_cons, List.map_nil]); (rw [show (l0.drop (x8_1 : Int).toNat).length = (l0.length - x8_1.toNat) from List.length_drop] <;> rfl)) ?_
                    with_reducible refine (pcap_Next.calls k1 _ _ (l0.drop (x8_1 : Int).toNat) t164 t171 t172 t173 t174 t177 t178 _ ?side1 ?side2 A14.out).mono ?_
                    (case side1 => exact (Kd.C_below HR170.out HB.out))
                    (case side2 => exact HC170.out)
                    rintro e w36 ⟨v175, rfl, ho0, hb⟩
                    refine ⟨_, rfl, ?_⟩
                    have n0_ := Aside0.mk (Kd.S_elder' (by exact HO_7.out) (by (exact Kd.R_base ho0)) hb)
                    have n1_ := Aside0.mk (Kd.R_lower ho0 (below_size (by exact HB.out)))
                    have n2_ := Aside0.mk (blk_below (g := gb162) (o := .cells #[.bool x163000_1, .bool x163001_1, .int .u32 x163002_1, .int .u32 x163003_1] 24 (0, 0)) (by exact BK162.out) hb)
                    have n3_ := Aside0.mk (blk_below (g := gb163) (o := .cells #[.int .i64 x164000_1, .int .i64 x164001_1] 36 (0, 0)) (by exact BK163.out) hb)
                    have n4_ := Aside0.mk (blk_below (g := gb169) (o := .cells #[.bool t164, .bool t165, .int .u32 t166, .int .u32 t167] 24 (0, 0)) (by exact BK169.out) hb)
                    have n5_ := Aside0.mk (blk_below (g := gb179) (o := .cells #[.int .u32 0, .int .u32 0, .int .u32 0, .slice none 0 0] 46 (0, 0)) (by exact BK179.out) hb)
                    have n6_ := Aside0.mk (below_step (by exact HB.out) hb)
                    clear HO_7
                    clear BK162
                    clear BK163
                    clear BK169
                    clear BK179
                    clear HB
                    have HO_7 := n0_
                    have HO176 := n1_
                    have BK162 := n2_
                    have BK163 := n3_
                    have BK169 := n4_
                    have BK179 := n5_
                    have HB := n6_
                    clear n0_ n1_ n2_ n3_ n4_ n5_ n6_
                    (try clear hb)
                    (skip)
                    (skip)
                    (skip)
                    (try clear ho0)
                    refine hK.out _ _ ⟨(blk_cell BK169.out 0).trans rfl, (blk_cell BK169.out 1).trans rfl, (blk_cell BK169.out 2).trans rfl, (blk_cell BK169.out 3).trans rfl⟩ (fun hHeld => ?_)
                    clear hK K
                    refine norm_ (a' := ?_) ?_ ?_
                    rotate_left
                    · show Act.put _ (some 32) _ = _
                      simp only [Act.put, List.setIfInBounds_toArray, List.set_cons_zero, List.set_cons_succ, i64_w, i32_w]
                      rfl
                    refine pure_ (i := 6) (N := some 26) (v := ?_) (a' := ?_) #[true, true, true, true, true, true, true, false, false, false, true, false, false, false] rfl rfl (any_of HT_.out (by kernel_rfl)) (fun _ _ _ h => h) (Or.inl ⟨by rfl, ?_⟩) ?_ ?_
                    rotate_left
                    · intro w'
                      go_simp
                      with_reducible rfl
                    rotate_left
                    · simp only [Act.put, List.setIfInBounds_toArray, List.set_cons_zero, List.set_cons_succ, i64_w, i32_w]
                      rfl
                    refine pure_ (i := 7) (N := some 33) (v := ?_) (a' := ?_) #[true, true, true, true, true, true, true, true, false, false, true, false, false, false] rfl rfl (any_of HT_.out (by kernel_rfl)) (fun _ _ _ h => h) (Or.inl ⟨by rfl, ?_⟩) ?_ ?_
                    rotate_left
                    · intro w'
                      go_simp
                      with_reducible rfl
                    rotate_left
                    · simp only [Act.put, List.setIfInBounds_toArray, List.set_cons_zero, List.set_cons_succ, i64_w, i32_w]
                      rfl
                    refine pure_ (i := 8) (N := some 34) (v := ?_) (a' := ?_) #[true, true, true, true, true, true, true, true, true, false, true, false, false, false] rfl rfl (any_of HT_.out (by kernel_rfl)) (fun _ _ _ h => h) (Or.inl ⟨by rfl, ?_⟩) ?_ ?_
                    rotate_left
                    · intro w'
                      go_simp
                      with_reducible rfl
                    rotate_left
                    · simp only [Act.put, List.setIfInBounds_toArray, List.set_cons_zero, List.set_cons_succ, i64_w, i32_w]
                      rfl
                    refine pure_ (i := 9) (N := some 35) (v := ?_) (a' := ?_) #[true, true, true, true, true, true, true, true, true, true, true, false, false, false] rfl rfl (any_of HT_.out (by kernel_rfl)) (fun _ _ _ h => h) (Or.inl ⟨by rfl, ?_⟩) ?_ ?_
                    rotate_left
                    · intro w'
                      go_simp
                      with_reducible rfl
                    rotate_left
                    · simp only [Act.put, List.setIfInBounds_toArray, List.set_cons_zero, List.set_cons_succ, i64_w, i32_w]
                      rfl
                    exact norm_ (by simp only [putAll, Act.put, List.setIfInBounds_toArray, List.set_cons_zero, List.set_cons_succ]) (hCont (v175, gb179) _ ⟨hHeld, (by exact HO176.out), (by exact Kd.S_mono HO_7.out (fun _ hk => ⟨hk.2, hk.1.2⟩)), (by exact BK162.out), (by exact BK163.out), (by exact BK169.out), (by exact BK179.out), GW179.out, GE179.out, NB162_179.out, NB179_162.out, NB163_179.out, NB179_163.out, NB169_179.out, NB179_169.out, (by exact HB.out)⟩)
                rintro ⟨v175, gb179⟩ w37 ⟨hS_, h0_, h1_, h2_, h3_, h4_, h5_, h6_, h7_, h8_, h9_, h10_, h11_, h12_, h13_, h14_⟩
                have n0_ : Aside0 (Kd.R (Kd.int .u8) 5 w37 w.heap.size (fun _ => True) v175 t174) := ⟨h0_⟩
                have n1_ : Aside0 (Kd.S k46 46 w37 w.heap.size (fun k_ => some k_ ≠ (v175 : Value).ownBlock ∧ k_ ≠ gb179) u7 x7_1) := ⟨h1_⟩
                have n2_ : Aside0 (w37.heap[gb162]? = some (.cells #[.bool x163000_1, .bool x163001_1, .int .u32 x163002_1, .int .u32 x163003_1] 24 (0, 0))) := ⟨h2_⟩
                have n3_ : Aside0 (w37.heap[gb163]? = some (.cells #[.int .i64 x164000_1, .int .i64 x164001_1] 36 (0, 0))) := ⟨h3_⟩
                have n4_ : Aside0 (w37.heap[gb169]? = some (.cells #[.bool t164, .bool t165, .int .u32 t166, .int .u32 t167] 24 (0, 0))) := ⟨h4_⟩
                have n5_ : Aside0 (w37.heap[gb179]? = some (.cells #[.int .u32 0, .int .u32 0, .int .u32 0, .slice none 0 0] 46 (0, 0))) := ⟨h5_⟩
                have n6_ : Aside0 (w.heap.size ≤ gb179) := ⟨h6_⟩
                have n7_ : Aside0 (w.heap.size ≤ gb179) := ⟨h7_⟩
                have n8_ : Aside0 (gb162 ≠ gb179) := ⟨h8_⟩
                have n9_ : Aside0 (gb179 ≠ gb162) := ⟨h9_⟩
                have n10_ : Aside0 (gb163 ≠ gb179) := ⟨h10_⟩
                have n11_ : Aside0 (gb179 ≠ gb163) := ⟨h11_⟩
                have n12_ : Aside0 (gb169 ≠ gb179) := ⟨h12_⟩
                have n13_ : Aside0 (gb179 ≠ gb169) := ⟨h13_⟩
                have n14_ : Aside0 (Below w.heap.size w w37) := ⟨h14_⟩
                clear HO_7
                clear BK162
                clear BK163
                clear BK169
                clear HB
                clear h0_ h1_ h2_ h3_ h4_ h5_ h6_ h7_ h8_ h9_ h10_ h11_ h12_ h13_ h14_
                have HO176 := n0_
                have HO_7 := n1_
                have BK162 := n2_
                have BK163 := n3_
                have BK169 := n4_
                have BK179 := n5_
                have GW179 := n6_
                have GE179 := n7_
                have NB162_179 := n8_
                have NB179_162 := n9_
                have NB163_179 := n10_
                have NB179_163 := n11_
                have NB169_179 := n12_
                have NB179_169 := n13_
                have HB := n14_
                clear n0_ n1_ n2_ n3_ n4_ n5_ n6_ n7_ n8_ n9_ n10_ n11_ n12_ n13_ n14_
                have hHeld : w37.cell? ⟨gb169, 0, none⟩ = some (.bool t164) ∧ w37.cell? ⟨gb169, 1, none⟩ = some (.bool t165) ∧ w37.cell? ⟨gb169, 2, none⟩ = some (.int .u32 t166) ∧ w37.cell? ⟨gb169, 3, none⟩ = some (.int .u32 t167) := hS_
                obtain ⟨Ao41, co41, eo41⟩ := Kd.R_slice HO176.out
                (subst eo41)
                refine norm_ (a' := ?_) ?_ ?_
                rotate_left
                · simp only [putAll, Act.put, List.setIfInBounds_toArray, List.set_cons_zero, List.set_cons_succ]
                  rfl
                refine one_ (i := 11) (N := none) #[true, true, true, true, true, true, true, true, true, true, true, true, false, false] rfl rfl (one_of HT_.out (by kernel_rfl)) (by decide) (fun K hK => ?_)
                have hs38 : w37.cell? ⟨gb179, 0, none⟩ = some (.int .u32 0) := (blk_cell BK179.out 0).trans rfl
                have hfs38 := blk_frozen BK179.out 0
                have hns38_0 := NB162_179.out
                have hns38_1 := NB163_179.out
                have hns38_2 := NB169_179.out
                have hms38_0 := NB179_162.out
                have hms38_1 := NB179_163.out
                have hms38_2 := NB179_169.out
                have hs39 : w37.cell? ⟨gb179, 1, none⟩ = some (.int .u32 0) := (blk_cell BK179.out 1).trans rfl
                have hfs39 := blk_frozen BK179.out 1
                have hns39_0 := NB162_179.out
                have hns39_1 := NB163_179.out
                have hns39_2 := NB169_179.out
                have hms39_0 := NB179_162.out
                have hms39_1 := NB179_163.out
                have hms39_2 := NB179_169.out
                have hs40 : w37.cell? ⟨gb179, 2, none⟩ = some (.int .u32 0) := (blk_cell BK179.out 2).trans rfl
                have hfs40 := blk_frozen BK179.out 2
                have hns40_0 := NB162_179.out
                have hns40_1 := NB163_179.out
                have hns40_2 := NB169_179.out
                have hms40_0 := NB179_162.out
                have hms40_1 := NB179_163.out
                have hms40_2 := NB179_169.out
                have hs42 : w37.cell? ⟨gb179, 3, none⟩ = some (.slice none 0 0) := (blk_cell BK179.out 3).trans rfl
                have hfs42 := blk_frozen BK179.out 3
                have hns42_0 := NB162_179.out
                have hns42_1 := NB163_179.out
                have hns42_2 := NB169_179.out
                have hms42_0 := NB179_162.out
                have hms42_1 := NB179_163.out
                have hms42_2 := NB179_169.out
                refine skip_ (w1 := ?_) (by rfl) rfl ?_ ?_
                rotate_left
                · go_simp
                  rfl
                refine hK.out _ _ ⟨((cell_far (p := ⟨gb179, _, none⟩) NB169_179.out _).trans (((cell_far (p := ⟨gb179, _, none⟩) NB169_179.out _).trans (((cell_far (p := ⟨gb179, _, none⟩) NB169_179.out _).trans (((cell_far (p := ⟨gb179, _, none⟩) NB169_179.out _).trans (hHeld.1)))))))), ((cell_far (p := ⟨gb179, _, none⟩) NB169_179.out _).trans (((cell_far (p := ⟨gb179, _, none⟩) NB169_179.out _).trans (((cell_far (p := ⟨gb179, _, none⟩) NB169_179.out _).trans (((cell_far (p := ⟨gb179, _, none⟩) NB169_179.out _).trans (hHeld.2.1)))))))), ((cell_far (p := ⟨gb179, _, none⟩) NB169_179.out _).trans (((cell_far (p := ⟨gb179, _, none⟩) NB169_179.out _).trans (((cell_far (p := ⟨gb179, _, none⟩) NB169_179.out _).trans (((cell_far (p := ⟨gb179, _, none⟩) NB169_179.out _).trans (hHeld.2.2.1)))))))), ((cell_far (p := ⟨gb179, _, none⟩) NB169_179.out _).trans (((cell_far (p := ⟨gb179, _, none⟩) NB169_179.out _).trans (((cell_far (p := ⟨gb179, _, none⟩) NB169_179.out _).trans (((cell_far (p := ⟨gb179, _, none⟩) NB169_179.out _).trans (hHeld.2.2.2))))))))⟩ (fun hHeld => ?_)
                clear hK K
                refine pure_ (i := 12) (N := some 10) (v := ?_) (a' := ?_) #[true, true, true, true, true, true, true, true, true, true, true, true, true, false] rfl rfl (any_of HT_.out (by kernel_rfl)) (fun _ _ _ h => h) (Or.inl ⟨by rfl, ?_⟩) ?_ ?_
                rotate_left
                · intro w'
                  go_simp
                  with_reducible rfl
                rotate_left
                · simp only [Act.put, List.setIfInBounds_toArray, List.set_cons_zero, List.set_cons_succ, i64_w, i32_w]
                  rfl
                refine pure_ (i := 13) (N := some 11) (v := ?_) (a' := ?_) #[true, true, true, true, true, true, true, true, true, true, true, true, true, true] rfl rfl (any_of HT_.out (by kernel_rfl)) (fun _ _ _ h => h) (Or.inl ⟨by rfl, ?_⟩) ?_ ?_
                rotate_left
                · intro w'
                  go_simp
                  with_reducible rfl
                rotate_left
                · simp only [Act.put, List.setIfInBounds_toArray, List.set_cons_zero, List.set_cons_succ, i64_w, i32_w]
                  rfl
                refine done_ (done_of HT_.out (by kernel_rfl)) ?_
                have hnb43 := NB169_162.out
                have hnc43 := NB162_169.out
                have hnb44 := NB169_163.out
                have hnc44 := NB163_169.out
                have hnb45 := NB169_179.out
                have hnc45 := NB179_169.out
                have hcz46_0 : w37.cell? ⟨gb169, 0, none⟩ = some (.bool t164) := (blk_cell BK169.out 0).trans rfl
                have hcz46_1 : w37.cell? ⟨gb169, 1, none⟩ = some (.bool t165) := (blk_cell BK169.out 1).trans rfl
                have hcz46_2 : w37.cell? ⟨gb169, 2, none⟩ = some (.int .u32 t166) := (blk_cell BK169.out 2).trans rfl
                have hcz46_3 : w37.cell? ⟨gb169, 3, none⟩ = some (.int .u32 t167) := (blk_cell BK169.out 3).trans rfl
                have hfz46_0 := blk_frozen BK169.out 0
                have hfz46_1 := blk_frozen BK169.out 1
                have hfz46_2 := blk_frozen BK169.out 2
                have hfz46_3 := blk_frozen BK169.out 3
                have hnb47 := NB162_163.out
                have hnc47 := NB163_162.out
                have hnb48 := NB162_179.out
                have hnc48 := NB179_162.out
                have hcz49_0 : w37.cell? ⟨gb162, 0, none⟩ = some (.bool x163000_1) := (blk_cell BK162.out 0).trans rfl
                have hcz49_1 : w37.cell? ⟨gb162, 1, none⟩ = some (.bool x163001_1) := (blk_cell BK162.out 1).trans rfl
                have hcz49_2 : w37.cell? ⟨gb162, 2, none⟩ = some (.int .u32 x163002_1) := (blk_cell BK162.out 2).trans rfl
                have hcz49_3 : w37.cell? ⟨gb162, 3, none⟩ = some (.int .u32 x163003_1) := (blk_cell BK162.out 3).trans rfl
                have hfz49_0 := blk_frozen BK162.out 0
                have hfz49_1 := blk_frozen BK162.out 1
                have hfz49_2 := blk_frozen BK162.out 2
                have hfz49_3 := blk_frozen BK162.out 3
                have hnb50 := NB163_179.out
                have hnc50 := NB179_163.out
                have hcz51_0 : w37.cell? ⟨gb163, 0, none⟩ = some (.int .i64 x164000_1) := (blk_cell BK163.out 0).trans rfl
                have hcz51_1 : w37.cell? ⟨gb163, 1, none⟩ = some (.int .i64 x164001_1) := (blk_cell BK163.out 1).trans rfl
                have hfz51_0 := blk_frozen BK163.out 0
                have hfz51_1 := blk_frozen BK163.out 1
                try go_wp2
                refine bodyPost_ret (results_list (rs := [.cell 2 24, .tmp 3, .cell 4 36]) rfl (by simp) (.cell gb162 24 #[.bool t164, .bool t165, .int .u32 t166, .int .u32 t167] (0, 0) _ rfl (by refine blk_far ?_ NB162_163.out _; refine blk_far ?_ NB162_163.out _; refine blk_put (cs := #[.bool t164, .bool t165, .int .u32 t166, .int .u32 x163003_1]) ?_ 3 _ rfl; refine blk_put (cs := #[.bool t164, .bool t165, .int .u32 x163002_1, .int .u32 x163003_1]) ?_ 2 _ rfl; refine blk_put (cs := #[.bool t164, .bool x163001_1, .int .u32 x163002_1, .int .u32 x163003_1]) ?_ 1 _ rfl; refine blk_put (cs := #[.bool x163000_1, .bool x163001_1, .int .u32 x163002_1, .int .u32 x163003_1]) ?_ 0 _ rfl; refine blk_far ?_ NB162_179.out _; refine blk_far ?_ NB162_179.out _; refine blk_far ?_ NB162_179.out _; refine blk_far ?_ NB162_179.out _; exact BK162.out) Try.underlying24 rfl (by kernel_rfl) (.tmp (.cell gb163 36 #[.int .i64 x8_1, .int .i64 t178] (0, 0) _ rfl (by refine blk_put (cs := #[.int .i64 x8_1, .int .i64 x164001_1]) ?_ 1 _ rfl; refine blk_put (cs := #[.int .i64 x164000_1, .int .i64 x164001_1]) ?_ 0 _ rfl; refine blk_far ?_ NB163_162.out _; refine blk_far ?_ NB163_162.out _; refine blk_far ?_ NB163_162.out _; refine blk_far ?_ NB163_162.out _; refine blk_far ?_ NB163_179.out _; refine blk_far ?_ NB163_179.out _; refine blk_far ?_ NB163_179.out _; refine blk_far ?_ NB163_179.out _; exact BK163.out) Try.underlying36 rfl (by kernel_rfl) .nil)))) rfl ?_
                exact ⟨_, by (rfl), by exact Kd.S_mono (Kd.S_far (p := ⟨gb163, 1, none⟩) (Kd.S_far (p := ⟨gb163, 0, none⟩) (Kd.S_far (p := ⟨gb162, 3, none⟩) (Kd.S_far (p := ⟨gb162, 2, none⟩) (Kd.S_far (p := ⟨gb162, 1, none⟩) (Kd.S_far (p := ⟨gb162, 0, none⟩) (Kd.S_far (p := ⟨gb179, 3, none⟩) (Kd.S_far (p := ⟨gb179, 2, none⟩) (Kd.S_far (p := ⟨gb179, 1, none⟩) (Kd.S_far (p := ⟨gb179, 0, none⟩) (Kd.S_types (Kd.S_types (Kd.S_mono HO_7.out (fun k_ hk => (⟨hk, hk.2⟩ : _ ∧ k_ ≠ gb179))) BK162.out (by decide)) BK163.out (by decide)) (fun _ hk => hk.1.1.2) (.int .u32 t171)) (fun _ hk => hk.1.1.2) (.int .u32 t172)) (fun _ hk => hk.1.1.2) (.int .u32 t173)) (fun _ hk => hk.1.1.2) (.slice Ao41 t174.length co41)) (fun _ hk => hk.1.2) (.bool t164)) (fun _ hk => hk.1.2) (.bool t165)) (fun _ hk => hk.1.2) (.int .u32 t166)) (fun _ hk => hk.1.2) (.int .u32 t167)) (fun _ hk => hk.2) (.int .i64 x8_1)) (fun _ hk => hk.2) (.int .i64 t178)) (fun _ hk => trivial), by repeat (with_reducible first | exact HB.out | refine below_set ?_ GE162.out | refine below_set ?_ GE163.out | refine below_set ?_ GE179.out)⟩
            · rw [if_neg c13] at H
              exact absurd H (by simp)
          · rw [if_neg c12] at H
            exact absurd H (by simp)
        · rw [if_neg c11] at H
          have c11b0 : decide (x8_1 < (l0.length : Int)) = false := decide_eq_false c11
          clear c11
          simp only [Option.some.injEq, Prod.mk.injEq] at H
          obtain ⟨rfl, rfl, rfl, rfl, rfl, rfl, rfl⟩ := H
          have hnb52 := NB169_162.out
          have hnc52 := NB162_169.out
          have hnb53 := NB169_163.out
          have hnc53 := NB163_169.out
          have hcz54_0 : wr.cell? ⟨gb169, 0, none⟩ = some (.bool t164) := (blk_cell BK169.out 0).trans rfl
          have hcz54_1 : wr.cell? ⟨gb169, 1, none⟩ = some (.bool t165) := (blk_cell BK169.out 1).trans rfl
          have hcz54_2 : wr.cell? ⟨gb169, 2, none⟩ = some (.int .u32 t166) := (blk_cell BK169.out 2).trans rfl
          have hcz54_3 : wr.cell? ⟨gb169, 3, none⟩ = some (.int .u32 t167) := (blk_cell BK169.out 3).trans rfl
          have hfz54_0 := blk_frozen BK169.out 0
          have hfz54_1 := blk_frozen BK169.out 1
          have hfz54_2 := blk_frozen BK169.out 2
          have hfz54_3 := blk_frozen BK169.out 3
          have hnb55 := NB162_163.out
          have hnc55 := NB163_162.out
          have hcz56_0 : wr.cell? ⟨gb162, 0, none⟩ = some (.bool x163000_1) := (blk_cell BK162.out 0).trans rfl
          have hcz56_1 : wr.cell? ⟨gb162, 1, none⟩ = some (.bool x163001_1) := (blk_cell BK162.out 1).trans rfl
          have hcz56_2 : wr.cell? ⟨gb162, 2, none⟩ = some (.int .u32 x163002_1) := (blk_cell BK162.out 2).trans rfl
          have hcz56_3 : wr.cell? ⟨gb162, 3, none⟩ = some (.int .u32 x163003_1) := (blk_cell BK162.out 3).trans rfl
          have hfz56_0 := blk_frozen BK162.out 0
          have hfz56_1 := blk_frozen BK162.out 1
          have hfz56_2 := blk_frozen BK162.out 2
          have hfz56_3 := blk_frozen BK162.out 3
          have hcz57_0 : wr.cell? ⟨gb163, 0, none⟩ = some (.int .i64 x164000_1) := (blk_cell BK163.out 0).trans rfl
          have hcz57_1 : wr.cell? ⟨gb163, 1, none⟩ = some (.int .i64 x164001_1) := (blk_cell BK163.out 1).trans rfl
          have hfz57_0 := blk_frozen BK163.out 0
          have hfz57_1 := blk_frozen BK163.out 1
          go_wp2
          refine bodyPost_ret (results_list (rs := [.cell 2 24, .tmp 3, .cell 4 36]) rfl (by simp) (.cell gb162 24 #[.bool t164, .bool t165, .int .u32 t166, .int .u32 t167] (0, 0) _ rfl (by refine blk_far ?_ NB162_163.out _; refine blk_far ?_ NB162_163.out _; refine blk_put (cs := #[.bool t164, .bool t165, .int .u32 t166, .int .u32 x163003_1]) ?_ 3 _ rfl; refine blk_put (cs := #[.bool t164, .bool t165, .int .u32 x163002_1, .int .u32 x163003_1]) ?_ 2 _ rfl; refine blk_put (cs := #[.bool t164, .bool x163001_1, .int .u32 x163002_1, .int .u32 x163003_1]) ?_ 1 _ rfl; refine blk_put (cs := #[.bool x163000_1, .bool x163001_1, .int .u32 x163002_1, .int .u32 x163003_1]) ?_ 0 _ rfl; exact BK162.out) Try.underlying24 rfl (by kernel_rfl) (.tmp (.cell gb163 36 #[.int .i64 0, .int .i64 0] (0, 0) _ rfl (by refine blk_put (cs := #[.int .i64 0, .int .i64 x164001_1]) ?_ 1 _ rfl; refine blk_put (cs := #[.int .i64 x164000_1, .int .i64 x164001_1]) ?_ 0 _ rfl; refine blk_far ?_ NB163_162.out _; refine blk_far ?_ NB163_162.out _; refine blk_far ?_ NB163_162.out _; refine blk_far ?_ NB163_162.out _; exact BK163.out) Try.underlying36 rfl (by kernel_rfl) .nil)))) rfl ?_
          exact ⟨_, by (rfl), by exact Kd.S_mono (Kd.S_far (p := ⟨gb163, 1, none⟩) (Kd.S_far (p := ⟨gb163, 0, none⟩) (Kd.S_far (p := ⟨gb162, 3, none⟩) (Kd.S_far (p := ⟨gb162, 2, none⟩) (Kd.S_far (p := ⟨gb162, 1, none⟩) (Kd.S_far (p := ⟨gb162, 0, none⟩) (Kd.S_types (Kd.S_types HO_7.out BK162.out (by decide)) BK163.out (by decide)) (fun _ hk => hk.1.2) (.bool t164)) (fun _ hk => hk.1.2) (.bool t165)) (fun _ hk => hk.1.2) (.int .u32 t166)) (fun _ hk => hk.1.2) (.int .u32 t167)) (fun _ hk => hk.2) (.int .i64 0)) (fun _ hk => hk.2) (.int .i64 0)) (fun _ hk => trivial), by repeat (with_reducible first | exact HB.out | refine below_set ?_ GE162.out | refine below_set ?_ GE163.out)⟩
  · rw [if_neg c3] at H
    have c3b0 : (t168 == 0) = false := beq_eq_false_iff_ne.mpr c3
    have c3b1 : (t168 != 0) = true := bne_iff_ne.mpr c3
    simp only [Option.some.injEq, Prod.mk.injEq] at H
    obtain ⟨rfl, rfl, rfl, rfl, rfl, rfl, rfl⟩ := H
    go_enter Try.func19, Try.ntmps19
    go_wp2_with (first | ((with_reducible refine gate_dst (N := 2) rfl ?_); refine box_event ?hg (N := 2) ?hd (cs := #[.bool false, .bool false, .int .u32 0, .int .u32 0]) (t := 24) ?hr ?_; (case hd => rfl); (case hg => rfl); (case hr => (go_simp; done)); intro gb162 hg w58 hbox hb; have n0_ := Aside0.mk (below_step (by exact HB.out) hb); have n1_ := Aside0.mk (hbox); have n2_ := Aside0.mk ((by rw [hg]; exact (below_size (by exact HB.out)) : w.heap.size ≤ gb162)); have n3_ := Aside0.mk ((by rw [hg]; exact (below_size (by exact HB.out)) : w.heap.size ≤ gb162)); clear HB; have HB := n0_; have BK162 := n1_; have GW162 := n2_; have GE162 := n3_; clear n0_ n1_ n2_ n3_; clear hb hbox hg) | ((with_reducible refine gate_dst (N := 4) rfl ?_); refine box_event ?hg (N := 4) ?hd (cs := #[.int .i64 0, .int .i64 0]) (t := 36) ?hr ?_; (case hd => rfl); (case hg => rfl); (case hr => (go_simp; done)); intro gb163 hg w59 hbox hb; have n0_ := Aside0.mk (blk_below (g := gb162) (o := .cells #[.bool false, .bool false, .int .u32 0, .int .u32 0] 24 (0, 0)) (by exact BK162.out) hb); have n1_ := Aside0.mk (below_step (by exact HB.out) hb); have n2_ := Aside0.mk (hbox); have n3_ := Aside0.mk ((by rw [hg]; exact (below_size (by exact HB.out)) : w.heap.size ≤ gb163)); have n4_ := Aside0.mk ((by rw [hg]; exact (below_size (by exact HB.out)) : w.heap.size ≤ gb163)); have n5_ := Aside0.mk ((by rw [hg]; exact Nat.ne_of_lt (blk_lt (g := gb162) (o := .cells #[.bool false, .bool false, .int .u32 0, .int .u32 0] 24 (0, 0)) (by exact BK162.out)) : gb162 ≠ gb163)); have n6_ := Aside0.mk ((by rw [hg]; exact Nat.ne_of_gt (blk_lt (g := gb162) (o := .cells #[.bool false, .bool false, .int .u32 0, .int .u32 0] 24 (0, 0)) (by exact BK162.out)) : gb163 ≠ gb162)); clear BK162; clear HB; have BK162 := n0_; have HB := n1_; have BK163 := n2_; have GW163 := n3_; have GE163 := n4_; have NB162_163 := n5_; have NB163_162 := n6_; clear n0_ n1_ n2_ n3_ n4_ n5_ n6_; clear hb hbox hg) | ((with_reducible refine gate_callee (f := 21) rfl ?_); refine goesL_ (some 14) rfl rfl Try.func21 (by kernel_rfl) rfl #[.slice A0 l0.length c0] rfl (by (try simp only [List.map_toArray, List.map_cons, List.map_nil]); (rfl)) ?_; (with_reducible refine (pcap_Head.calls k _ _ l0 t164 t165 t166 t167 t168 _ ?side1 ?side2 A2.out).mono ?_); (case side1 => exact (Kd.C_below HR0.out HB.out)); (case side2 => exact HC0.out); rintro e w60 ⟨rfl, hb⟩; refine ⟨_, rfl, ?_⟩; have n0_ := Aside0.mk (blk_below (g := gb162) (o := .cells #[.bool false, .bool false, .int .u32 0, .int .u32 0] 24 (0, 0)) (by exact BK162.out) hb); have n1_ := Aside0.mk (blk_below (g := gb163) (o := .cells #[.int .i64 0, .int .i64 0] 36 (0, 0)) (by exact BK163.out) hb); have n2_ := Aside0.mk (below_step (by exact HB.out) hb); clear BK162; clear BK163; clear HB; have BK162 := n0_; have BK163 := n1_; have HB := n2_; clear n0_ n1_ n2_; (try clear hb)) | ((with_reducible refine gate_dst (N := 5) rfl ?_); refine box_event ?hg (N := 5) ?hd (cs := #[.bool false, .bool false, .int .u32 0, .int .u32 0]) (t := 24) ?hr ?_; (case hd => rfl); (case hg => rfl); (case hr => (go_simp; done)); intro gb169 hg w61 hbox hb; have n0_ := Aside0.mk (blk_below (g := gb162) (o := .cells #[.bool false, .bool false, .int .u32 0, .int .u32 0] 24 (0, 0)) (by exact BK162.out) hb); have n1_ := Aside0.mk (blk_below (g := gb163) (o := .cells #[.int .i64 0, .int .i64 0] 36 (0, 0)) (by exact BK163.out) hb); have n2_ := Aside0.mk (below_step (by exact HB.out) hb); have n3_ := Aside0.mk (hbox); have n4_ := Aside0.mk ((by rw [hg]; exact (below_size (by exact HB.out)) : w.heap.size ≤ gb169)); have n5_ := Aside0.mk ((by rw [hg]; exact (below_size (by exact HB.out)) : w.heap.size ≤ gb169)); have n6_ := Aside0.mk ((by rw [hg]; exact Nat.ne_of_lt (blk_lt (g := gb162) (o := .cells #[.bool false, .bool false, .int .u32 0, .int .u32 0] 24 (0, 0)) (by exact BK162.out)) : gb162 ≠ gb169)); have n7_ := Aside0.mk ((by rw [hg]; exact Nat.ne_of_gt (blk_lt (g := gb162) (o := .cells #[.bool false, .bool false, .int .u32 0, .int .u32 0] 24 (0, 0)) (by exact BK162.out)) : gb169 ≠ gb162)); have n8_ := Aside0.mk ((by rw [hg]; exact Nat.ne_of_lt (blk_lt (g := gb163) (o := .cells #[.int .i64 0, .int .i64 0] 36 (0, 0)) (by exact BK163.out)) : gb163 ≠ gb169)); have n9_ := Aside0.mk ((by rw [hg]; exact Nat.ne_of_gt (blk_lt (g := gb163) (o := .cells #[.int .i64 0, .int .i64 0] 36 (0, 0)) (by exact BK163.out)) : gb169 ≠ gb163)); clear BK162; clear BK163; clear HB; have BK162 := n0_; have BK163 := n1_; have HB := n2_; have BK169 := n3_; have GW169 := n4_; have GE169 := n5_; have NB162_169 := n6_; have NB169_162 := n7_; have NB163_169 := n8_; have NB169_163 := n9_; clear n0_ n1_ n2_ n3_ n4_ n5_ n6_ n7_ n8_ n9_; clear hb hbox hg; have hnb62 := NB169_162.out; have hnc62 := NB162_169.out; have hnb63 := NB169_163.out; have hnc63 := NB163_169.out; have hcz64_0 : w61.cell? ⟨gb169, 0, none⟩ = some (.bool false) := (blk_cell BK169.out 0).trans rfl; have hcz64_1 : w61.cell? ⟨gb169, 1, none⟩ = some (.bool false) := (blk_cell BK169.out 1).trans rfl; have hcz64_2 : w61.cell? ⟨gb169, 2, none⟩ = some (.int .u32 0) := (blk_cell BK169.out 2).trans rfl; have hcz64_3 : w61.cell? ⟨gb169, 3, none⟩ = some (.int .u32 0) := (blk_cell BK169.out 3).trans rfl; have hfz64_0 := blk_frozen BK169.out 0; have hfz64_1 := blk_frozen BK169.out 1; have hfz64_2 := blk_frozen BK169.out 2; have hfz64_3 := blk_frozen BK169.out 3; have hnb65 := NB162_163.out; have hnc65 := NB163_162.out; have hcz66_0 : w61.cell? ⟨gb162, 0, none⟩ = some (.bool false) := (blk_cell BK162.out 0).trans rfl; have hcz66_1 : w61.cell? ⟨gb162, 1, none⟩ = some (.bool false) := (blk_cell BK162.out 1).trans rfl; have hcz66_2 : w61.cell? ⟨gb162, 2, none⟩ = some (.int .u32 0) := (blk_cell BK162.out 2).trans rfl; have hcz66_3 : w61.cell? ⟨gb162, 3, none⟩ = some (.int .u32 0) := (blk_cell BK162.out 3).trans rfl; have hfz66_0 := blk_frozen BK162.out 0; have hfz66_1 := blk_frozen BK162.out 1; have hfz66_2 := blk_frozen BK162.out 2; have hfz66_3 := blk_frozen BK162.out 3; have hcz67_0 : w61.cell? ⟨gb163, 0, none⟩ = some (.int .i64 0) := (blk_cell BK163.out 0).trans rfl; have hcz67_1 : w61.cell? ⟨gb163, 1, none⟩ = some (.int .i64 0) := (blk_cell BK163.out 1).trans rfl; have hfz67_0 := blk_frozen BK163.out 0; have hfz67_1 := blk_frozen BK163.out 1))
    refine bodyPost_ret (results_list (rs := [.cell 2 24, .tmp 3, .cell 4 36]) rfl (by simp) (.cell gb162 24 #[.bool false, .bool false, .int .u32 0, .int .u32 0] (0, 0) _ rfl (by refine blk_far ?_ NB162_163.out _; refine blk_far ?_ NB162_163.out _; refine blk_put (cs := #[.bool false, .bool false, .int .u32 0, .int .u32 0]) ?_ 3 _ rfl; refine blk_put (cs := #[.bool false, .bool false, .int .u32 0, .int .u32 0]) ?_ 2 _ rfl; refine blk_put (cs := #[.bool false, .bool false, .int .u32 0, .int .u32 0]) ?_ 1 _ rfl; refine blk_put (cs := #[.bool false, .bool false, .int .u32 0, .int .u32 0]) ?_ 0 _ rfl; refine blk_far ?_ NB162_169.out _; refine blk_far ?_ NB162_169.out _; refine blk_far ?_ NB162_169.out _; refine blk_far ?_ NB162_169.out _; exact BK162.out) Try.underlying24 rfl (by kernel_rfl) (.tmp (.cell gb163 36 #[.int .i64 0, .int .i64 t168] (0, 0) _ rfl (by refine blk_put (cs := #[.int .i64 0, .int .i64 0]) ?_ 1 _ rfl; refine blk_put (cs := #[.int .i64 0, .int .i64 0]) ?_ 0 _ rfl; refine blk_far ?_ NB163_162.out _; refine blk_far ?_ NB163_162.out _; refine blk_far ?_ NB163_162.out _; refine blk_far ?_ NB163_162.out _; refine blk_far ?_ NB163_169.out _; refine blk_far ?_ NB163_169.out _; refine blk_far ?_ NB163_169.out _; refine blk_far ?_ NB163_169.out _; exact BK163.out) Try.underlying36 rfl (by kernel_rfl) .nil)))) rfl ?_
    exact ⟨_, by (rfl), by (exact Kd.S_nil _ _ _ _ _), by repeat (with_reducible first | exact HB.out | refine below_set ?_ GE162.out | refine below_set ?_ GE163.out | refine below_set ?_ GE169.out)⟩

end Go.Proofs.Ytnjimecjpnjojaa.Print
