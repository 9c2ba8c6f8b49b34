-- laid by this session's own program (wip/mkprint.sh) for this claim
import Derived.Test.Ytnjimecjpnjojaa0
import Derived.Test.YtnjimecjpnjojaaF46
import Derived.Test.YtnjimecjpnjojaaF50
import Derived.Test.YtnjimecjpnjojaaF51
namespace Go.Proofs.Ytnjimecjpnjojaa.Print
open Go.RowKit Go.Proofs.YtnjimecjpnjojaaW.PrintWords Go.Proofs.YtnjimecjpnjojaaW.PrintLast Go.Proofs.YtnjimecjpnjojaaW.PrintMore
attribute [local go_sem] max2_int min2_int max_two min_two max_three min_three max_four min_four   -- for this text's walks alone
set_option linter.unusedVariables false
set_option linter.unusedSimpArgs false

/-! ### umpireref09_Head: function 22 -/
def umpireref09_Head.tail (k : Nat) (l0 : List Int) (b n : Bool) : Option (Bool × Bool × Int × Int × Int) :=
  if (l0.length : Int) < 24 then some (false, false, 0, 0, 2) else (umpireref02_Get.f k ((l0.take 6).drop 4) b).bind fun t => if t = 2 then (umpireref09_num.f k l0 16 b).bind fun t1 => (umpireref09_num.f k l0 20 b).bind fun t2 => some (b, n, t1, t2, 0) else some (false, false, 0, 0, 3)
def umpireref09_Head.try_ (k : Nat) (l0 : List Int) : Nat → Nat → Option (Bool × Bool × Int × Int × Int)
  | 0, _ => some (false, false, 0, 0, 3)
  | d + 1, j => (umpireref09_Header.f k ((j : Int) % 2 == 1) ((j : Int) / 2 == 1) 0 0).bind fun t => if (4 : Int) ≤ t.length then (if (strOfNums (t.take 4)).toList = (strOfNums (l0.take 4)).toList then umpireref09_Head.tail k l0 ((j : Int) % 2 == 1) ((j : Int) / 2 == 1) else umpireref09_Head.try_ k l0 d (j + 1)) else none
def umpireref09_Head.f (k : Nat) (l0 : List Int) : Option (Bool × Bool × Int × Int × Int) := if (l0.length : Int) < 4 then some (false, false, 0, 0, 2) else umpireref09_Head.try_ k l0 4 0
theorem umpireref09_Head.mono_tail (l0 : List Int) (b n : Bool) (k : Nat) : LeO (umpireref09_Head.tail k l0 b n) (umpireref09_Head.tail (k + 1) l0 b n) := by
  unfold umpireref09_Head.tail
  exact LeO.ite (LeO.refl _) (LeO.bind (umpireref02_Get.mono _ _ k) fun _ => LeO.ite (LeO.bind (umpireref09_num.mono _ _ _ k) fun _ => LeO.bind (umpireref09_num.mono _ _ _ k) fun _ => LeO.refl _) (LeO.refl _))
theorem umpireref09_Head.mono_try (l0 : List Int) (k : Nat) : ∀ d j, LeO (umpireref09_Head.try_ k l0 d j) (umpireref09_Head.try_ (k + 1) l0 d j)
  | 0, _ => LeO.refl _
  | d + 1, j => LeO.bind (umpireref09_Header.mono _ _ _ _ k) fun _ => LeO.ite (LeO.ite (umpireref09_Head.mono_tail l0 _ _ k) (umpireref09_Head.mono_try l0 k d (j + 1))) (LeO.refl _)
theorem umpireref09_Head.mono (l0 : List Int) (k : Nat) : LeO (umpireref09_Head.f k l0) (umpireref09_Head.f (k + 1) l0) := by
  unfold umpireref09_Head.f
  exact LeO.ite (LeO.refl _) (umpireref09_Head.mono_try l0 k 4 0)
theorem umpireref09_Head.cut4 (A : Option Addr) (l : List Int) (c : Nat) (h4 : (4 : Int) ≤ l.length) (hc : l.length ≤ c) :
    (∀ W : World, (Instr.slice 28 (.slice A l.length c) none (some (.int .i64 4)) none).run Try.prog W = .ok (.slice A 4 c) W) ∧ ∀ w : World, Kd.C (Kd.int .u8) w A l.length l → (convert 28 9 (.slice A 4 c)).run Try.prog w = .ok (.string (strOfNums (l.take (4 : Int).toNat))) w := by
  obtain ⟨i0, hi0, _, hsz, _⟩ := info_parts info5
  obtain ⟨hcB, hrB, hlB⟩ := print_take_of (P := Try.prog) (Value.int .u8) 0 28 5 .i64 Try.underlying28 hi0 hsz A c l 4 (by omega) h4 hc
  have lB4 : (l.take (4 : Int).toNat).length = 4 := (by rw [List.length_take]; omega)
  rw [lB4] at hcB
  refine ⟨hcB, fun w h => ?_⟩
  have hvB0 := Kd.C_string (P := Try.prog) (dst := 9) (c := c) Try.underlying28 Try.underlying5 Try.underlying9 (Kd.C_of_reads (enc := Value.int .u8) (d := (0 : Int)) (h1 := fun _ => rfl) (hrB w (Kd.reads_of_C (enc := Value.int .u8) (d := (0 : Int)) (h1 := fun _ => rfl) h)))
  rw [lB4] at hvB0
  exact hvB0
theorem umpireref09_Head.neq (a b : List UInt8) : (!(a == b)) = decide (¬ a = b) := by rw [Bool.eq_iff_iff]; simp
theorem umpireref09_Head.cut46 (A : Option Addr) (l : List Int) (c : Nat) (h4 : (24 : Int) ≤ l.length) (hc : l.length ≤ c) :
    ∃ A', (∀ W : World, (Instr.slice 28 (.slice A l.length c) (some (.int .i64 4)) (some (.int .i64 6)) none).run Try.prog W = .ok (.slice A' 2 (c - 4)) W) ∧ (∀ w : World, Kd.C (Kd.int .u8) w A l.length l → Kd.C (Kd.int .u8) w A' 2 ((l.take 6).drop 4)) ∧ ((l.take 6).drop 4).length = 2 ∧ 2 ≤ c - 4 := by
  obtain ⟨i0, hi0, _, hsz, _⟩ := info_parts info5
  obtain ⟨A', hcB, hrB, hlB⟩ := print_mid_of (P := Try.prog) (Value.int .u8) 0 28 5 .i64 .i64 Try.underlying28 hi0 hsz A c l 4 6 (by omega) (by omega) (by omega) hc
  have lB4 : ((l.take (6 : Int).toNat).drop (4 : Int).toNat).length = 2 := (by rw [List.length_drop, List.length_take]; omega)
  rw [lB4] at hcB
  refine ⟨A', hcB, fun w h => ?_, lB4, by omega⟩
  have h2 := Kd.C_of_reads (enc := Value.int .u8) (d := (0 : Int)) (h1 := fun _ => rfl) (hrB w (Kd.reads_of_C (enc := Value.int .u8) (d := (0 : Int)) (h1 := fun _ => rfl) h))
  rw [lB4] at h2
  exact h2
/-- What stands before a try. -/
structure umpireref09_Head.Round (w W : World) (g2 k : Nat) (l0 : List Int) (j : Nat) (r : Bool × Bool × Int × Int × Int) : Prop where
  h2 : W.heap[g2]? = some (.cells #[.bool false, .bool false, .int .u32 0, .int .u32 0] 24 (0, 0))
  hb : Below w.heap.size w W
  hl : umpireref09_Head.try_ k l0 (4 - j) j = some r
set_option maxHeartbeats 8000000 in
set_option maxRecDepth 100000 in
theorem umpireref09_Head.calls (k : Nat) (A0 : Option Addr) (c0 : Nat) (l0 : List Int) (r1 r2 : Bool) (r3 r4 : Int) (r5 : Int) (w : World) (hr0 : Kd.C (Kd.int .u8) w A0 l0.length l0) (hc0 : l0.length ≤ c0) (h : umpireref09_Head.f k l0 = some (r1, r2, r3, r4, r5)) :
    Calls Try.prog 22 #[.slice A0 l0.length c0] w fun e w' => e = .returned (.tuple #[.agg #[.bool r1, .bool r2, .int .u32 r3, .int .u32 r4], .int .i64 r5]) ∧ Below w.heap.size w w' := by
  have huM := Try.underlying24
  unfold umpireref09_Head.f at h
  have HR0 := Aside0.mk hr0
  have HC0 := Aside0.mk hc0
  have HW := Aside0.mk (Below.refl w.heap.size w)
  by_cases c1 : (l0.length : Int) < 4
  · rw [if_pos c1] at h
    simp only [Option.some.injEq, Prod.mk.injEq] at h
    obtain ⟨rfl, rfl, rfl, rfl, rfl⟩ := h
    have c1b : decide ((l0.length : Int) < 4) = true := decide_eq_true c1
    clear c1 hr0 hc0
    go_enter Try.func22, Try.ntmps22
    go_wp2_with (((with_reducible refine gate_dst (N := 2) rfl ?_); refine box_event ?hg (N := 2) ?hd (cs := #[.bool false, .bool false, .int .u32 0, .int .u32 0]) (t := 24) ?hr ?_; (case hd => rfl); (case hg => rfl); (case hr => first | (go_simp; done) | (go_simp; rfl)); intro g2 hg w1 hbox hb; have BK2 := Aside0.mk hbox; have HB1 := Aside0.mk (below_step HW.out hb); have GE2 : Aside0 (w.heap.size ≤ g2) := ⟨by rw [hg]; exact Nat.le_refl _⟩; clear hg hbox hb; have hc2_0 : w1.cell? ⟨g2, 0, none⟩ = some (.bool false) := (blk_cell BK2.out 0).trans rfl; have hf2_0 := blk_frozen BK2.out 0; have hc2_1 : w1.cell? ⟨g2, 1, none⟩ = some (.bool false) := (blk_cell BK2.out 1).trans rfl; have hf2_1 := blk_frozen BK2.out 1; have hc2_2 : w1.cell? ⟨g2, 2, none⟩ = some (.int .u32 0) := (blk_cell BK2.out 2).trans rfl; have hf2_2 := blk_frozen BK2.out 2; have hc2_3 : w1.cell? ⟨g2, 3, none⟩ = some (.int .u32 0) := (blk_cell BK2.out 3).trans rfl; have hf2_3 := blk_frozen BK2.out 3))
    refine bodyPost_ret (results_ct rfl _ _ g2 24 #[.bool false, .bool false, .int .u32 0, .int .u32 0] (0, 0) _ rfl (by refine blk_put (cs := #[.bool false, .bool false, .int .u32 0, .int .u32 0]) ?_ 3 _ rfl; refine blk_put (cs := #[.bool false, .bool false, .int .u32 0, .int .u32 0]) ?_ 2 _ rfl; refine blk_put (cs := #[.bool false, .bool false, .int .u32 0, .int .u32 0]) ?_ 1 _ rfl; refine blk_put (cs := #[.bool false, .bool false, .int .u32 0, .int .u32 0]) ?_ 0 _ rfl; exact BK2.out) Try.underlying24 rfl (by kernel_rfl)) rfl ?_
    exact ⟨rfl, by repeat (first | with_reducible exact HB1.out | with_reducible refine below_set ?_ GE2.out)⟩
  · rw [if_neg c1] at h
    have c1b : decide ((l0.length : Int) < 4) = false := decide_eq_false c1
    have h4 : 4 ≤ (l0.length : Int) := by omega
    have H4 := Aside0.mk h4
    have HF : Aside0 (umpireref09_Head.try_ k l0 (4 - 0) 0 = some (r1, r2, r3, r4, r5)) := ⟨h⟩
    obtain ⟨i0, hi0, _, hsz, _⟩ := info_parts info5
    clear c1 hr0 hc0 h4 h
    go_enter Try.func22, Try.ntmps22
    go_wp2_with (((with_reducible refine gate_dst (N := 2) rfl ?_); refine box_event ?hg (N := 2) ?hd (cs := #[.bool false, .bool false, .int .u32 0, .int .u32 0]) (t := 24) ?hr ?_; (case hd => rfl); (case hg => rfl); (case hr => first | (go_simp; done) | (go_simp; rfl)); intro g2 hg w1 hbox hb; have BK2 := Aside0.mk hbox; have HB1 := Aside0.mk (below_step HW.out hb); have GE2 : Aside0 (w.heap.size ≤ g2) := ⟨by rw [hg]; exact Nat.le_refl _⟩; clear hg hbox hb; have hc2_0 : w1.cell? ⟨g2, 0, none⟩ = some (.bool false) := (blk_cell BK2.out 0).trans rfl; have hf2_0 := blk_frozen BK2.out 0; have hc2_1 : w1.cell? ⟨g2, 1, none⟩ = some (.bool false) := (blk_cell BK2.out 1).trans rfl; have hf2_1 := blk_frozen BK2.out 1; have hc2_2 : w1.cell? ⟨g2, 2, none⟩ = some (.int .u32 0) := (blk_cell BK2.out 2).trans rfl; have hf2_2 := blk_frozen BK2.out 2; have hc2_3 : w1.cell? ⟨g2, 3, none⟩ = some (.int .u32 0) := (blk_cell BK2.out 3).trans rfl; have hf2_3 := blk_frozen BK2.out 3))
    go_loopg [4] 4 (fun kq v4 w' => ∃ j : Nat, kq + j = 4 ∧ v4 = .int .i64 (j : Int) ∧ Aside0 (umpireref09_Head.Round w w' g2 k l0 j (r1, r2, r3, r4, r5)))
    case atStart => exact ⟨0, rfl, rfl, ⟨⟨BK2.out, HB1.out, HF.out⟩⟩⟩
    case round =>
      obtain ⟨j, hj, rfl, HI⟩ := hrel
      clear BK2 HB1 HF hc2_0 hc2_1 hc2_2 hc2_3 hf2_0 hf2_1 hf2_2 hf2_3
      have BK := Aside0.mk HI.out.h2
      have HB := Aside0.mk HI.out.hb
      have HL := Aside0.mk HI.out.hl
      clear HI
      have hc2_0 : wr.cell? ⟨g2, 0, none⟩ = some (.bool false) := (blk_cell BK.out 0).trans rfl
      have hf2_0 := blk_frozen BK.out 0
      have hc2_1 : wr.cell? ⟨g2, 1, none⟩ = some (.bool false) := (blk_cell BK.out 1).trans rfl
      have hf2_1 := blk_frozen BK.out 1
      have hc2_2 : wr.cell? ⟨g2, 2, none⟩ = some (.int .u32 0) := (blk_cell BK.out 2).trans rfl
      have hf2_2 := blk_frozen BK.out 2
      have hc2_3 : wr.cell? ⟨g2, 3, none⟩ = some (.int .u32 0) := (blk_cell BK.out 3).trans rfl
      have hf2_3 := blk_frozen BK.out 3
      by_cases hlt : j < 4
      · have c2b : decide ((j : Int) < 4) = true := decide_eq_true (by omega)
        obtain ⟨d, hd⟩ : ∃ d, 4 - j = d + 1 := ⟨3 - j, by omega⟩
        have h := HL.out
        rw [hd, umpireref09_Head.try_] at h
        obtain ⟨t, ht, h⟩ := Option.bind_eq_some_iff.1 h
        have ht4 : (4 : Int) ≤ t.length := by
          by_cases q : (4 : Int) ≤ t.length
          · exact q
          · rw [if_neg q] at h; cases h
        rw [if_pos ht4] at h
        obtain ⟨hcA, hvA⟩ := umpireref09_Head.cut4 A0 l0 c0 H4.out HC0.out
        have HVA := Aside0.mk hvA
        have HT := Aside0.mk ht
        have HT4 := Aside0.mk ht4
        have H := Aside0.mk h
        have HD := Aside0.mk hd
        have HJ := Aside0.mk hj
        clear h ht ht4 hvA hd hj HL
        go_upto_region 7 with (((with_reducible refine gate_dst (N := 5) rfl ?_); refine box_event ?hg (N := 5) ?hd (cs := #[.bool false, .bool false, .int .u32 0, .int .u32 0]) (t := 24) ?hr ?_; (case hd => rfl); (case hg => rfl); (case hr => first | (go_simp; done) | (go_simp; rfl)); intro g5 hg w5 hbox hb; have BK5 := Aside0.mk hbox; have GE5 : Aside0 (w.heap.size ≤ g5) := ⟨by rw [hg]; exact below_size HB.out⟩; have NB : Aside0 (g2 ≠ g5) := ⟨by rw [hg]; exact Nat.ne_of_lt (blk_lt BK.out)⟩; have BK2_5 := Aside0.mk (blk_below BK.out hb); have HB5 := Aside0.mk (below_step HB.out hb); clear hg hbox hb BK HB; have hc5_0 : w5.cell? ⟨g5, 0, none⟩ = some (.bool false) := (blk_cell BK5.out 0).trans rfl; have hf5_0 := blk_frozen BK5.out 0; have hc5_1 : w5.cell? ⟨g5, 1, none⟩ = some (.bool false) := (blk_cell BK5.out 1).trans rfl; have hf5_1 := blk_frozen BK5.out 1; have hc5_2 : w5.cell? ⟨g5, 2, none⟩ = some (.int .u32 0) := (blk_cell BK5.out 2).trans rfl; have hf5_2 := blk_frozen BK5.out 2; have hc5_3 : w5.cell? ⟨g5, 3, none⟩ = some (.int .u32 0) := (blk_cell BK5.out 3).trans rfl; have hf5_3 := blk_frozen BK5.out 3))
        generalize ((j : Int) % 2 == 1) = b0 at HT H ⊢
        generalize ((j : Int) / 2 == 1) = o0 at HT H ⊢
        generalize hW : World.setCell (World.setCell (World.setCell (World.setCell w5 ⟨g5, 0, none⟩ (.bool b0)) ⟨g5, 1, none⟩ (.bool o0)) ⟨g5, 2, none⟩ (.int .u32 0)) ⟨g5, 3, none⟩ (.int .u32 0) = w6
        have BK5s : Aside0 (w6.heap[g5]? = some (.cells #[.bool b0, .bool o0, .int .u32 0, .int .u32 0] 24 (0, 0))) := ⟨by rw [← hW]; exact (by refine blk_put (cs := #[.bool b0, .bool o0, .int .u32 0, .int .u32 0]) ?_ 3 _ rfl; refine blk_put (cs := #[.bool b0, .bool o0, .int .u32 0, .int .u32 0]) ?_ 2 _ rfl; refine blk_put (cs := #[.bool b0, .bool false, .int .u32 0, .int .u32 0]) ?_ 1 _ rfl; refine blk_put (cs := #[.bool false, .bool false, .int .u32 0, .int .u32 0]) ?_ 0 _ rfl; exact BK5.out)⟩
        have BK2s : Aside0 (w6.heap[g2]? = some (.cells #[.bool false, .bool false, .int .u32 0, .int .u32 0] 24 (0, 0))) := ⟨by rw [← hW]; repeat (first | with_reducible exact BK2_5.out | refine blk_far ?_ NB.out _)⟩
        have HB6 : Aside0 (Below w.heap.size w w6) := ⟨by rw [← hW]; repeat (first | with_reducible exact HB5.out | with_reducible refine below_set ?_ GE5.out)⟩
        clear hW BK5 BK2_5 HB5 hc5_0 hf5_0 hc2_0 hf2_0 hc5_1 hf5_1 hc2_1 hf2_1 hc5_2 hf5_2 hc2_2 hf2_2 hc5_3 hf5_3 hc2_3 hf2_3
        have hs6 : w6.cell? ⟨g5, 0, none⟩ = some (.bool b0) ∧ w6.cell? ⟨g5, 1, none⟩ = some (.bool o0) ∧ w6.cell? ⟨g5, 2, none⟩ = some (.int .u32 0) ∧ w6.cell? ⟨g5, 3, none⟩ = some (.int .u32 0) := ⟨(blk_cell BK5s.out 0).trans rfl, (blk_cell BK5s.out 1).trans rfl, (blk_cell BK5s.out 2).trans rfl, (blk_cell BK5s.out 3).trans rfl⟩
        have hvA0 := HVA.out w6 (Kd.C_below HR0.out HB6.out)
        have hvA1 := HVA.out w6.drew (Kd.C_below HR0.out (below_drew HB6.out))
        have hvA2 := HVA.out w6.drew.drew (Kd.C_below HR0.out (below_drew (below_drew HB6.out)))
        go_cut [28] from 21 to 27 (fun v28 wx => v28 = .bool (decide (¬ (strOfNums (t.take 4)).toList = (strOfNums (l0.take 4)).toList)) ∧ Aside0 (wx.heap[g5]? = some (.cells #[.bool b0, .bool o0, .int .u32 0, .int .u32 0] 24 (0, 0))) ∧ Aside0 (wx.heap[g2]? = some (.cells #[.bool false, .bool false, .int .u32 0, .int .u32 0] 24 (0, 0))) ∧ Aside0 (Below w.heap.size w wx))
        case first =>
          go_region_held (fun w' => w'.cell? ⟨g5, 0, none⟩ = some (.bool b0) ∧ w'.cell? ⟨g5, 1, none⟩ = some (.bool o0) ∧ w'.cell? ⟨g5, 2, none⟩ = some (.int .u32 0) ∧ w'.cell? ⟨g5, 3, none⟩ = some (.int .u32 0)) ((first | exact hs7 | exact hs6)) (first | (go_at_call 46; with_reducible refine (umpireref09_Header.calls k b0 o0 0 0 t _ HT.out).mono ?_; rintro e w7 ⟨v, rfl, hv, hb⟩; obtain ⟨A7, c7, rfl⟩ := Kd.R_slice hv; have HB7 := Aside0.mk (below_step (by first | exact below_drew HB6.out | exact below_drew (below_drew HB6.out) | exact HB6.out) hb); have BK5_7 : Aside0 (w7.heap[g5]? = some (.cells #[.bool b0, .bool o0, .int .u32 0, .int .u32 0] 24 (0, 0))) := ⟨blk_below (blk_drew BK5s.out) hb⟩; have BK2_7 : Aside0 (w7.heap[g2]? = some (.cells #[.bool false, .bool false, .int .u32 0, .int .u32 0] 24 (0, 0))) := ⟨blk_below (blk_drew BK2s.out) hb⟩; have hC7 := (Kd.R_reads' hv).2.2; obtain ⟨hcB, hvB⟩ := umpireref09_Head.cut4 A7 t c7 HT4.out (Kd.R_reads' hv).2.1; have hvB0 := hvB w7 (by first | exact hC7 | exact Kd.C_drew hC7 | exact Kd.C_drew (Kd.C_drew hC7)); have hvA70 := HVA.out w7 (Kd.C_below HR0.out HB7.out); have hvB1 := hvB w7.drew (by first | exact hC7 | exact Kd.C_drew hC7 | exact Kd.C_drew (Kd.C_drew hC7)); have hvA71 := HVA.out w7.drew (Kd.C_below HR0.out (below_drew HB7.out)); have hvB2 := hvB w7.drew.drew (by first | exact hC7 | exact Kd.C_drew hC7 | exact Kd.C_drew (Kd.C_drew hC7)); have hvA72 := HVA.out w7.drew.drew (Kd.C_below HR0.out (below_drew (below_drew HB7.out))); have hs7 : w7.cell? ⟨g5, 0, none⟩ = some (.bool b0) ∧ w7.cell? ⟨g5, 1, none⟩ = some (.bool o0) ∧ w7.cell? ⟨g5, 2, none⟩ = some (.int .u32 0) ∧ w7.cell? ⟨g5, 3, none⟩ = some (.int .u32 0) := ⟨(blk_cell BK5_7.out 0).trans rfl, (blk_cell BK5_7.out 1).trans rfl, (blk_cell BK5_7.out 2).trans rfl, (blk_cell BK5_7.out 3).trans rfl⟩; clear hv hb hC7 hvB BK5s BK2s HB6))
          all_goals (go_wp2_with (fail); go_meet)
          all_goals (case rel => exact ⟨congrArg Value.bool (umpireref09_Head.neq _ _), ⟨BK5_7.out⟩, ⟨BK2_7.out⟩, ⟨by first | exact HB7.out | exact below_drew HB7.out | exact below_drew (below_drew HB7.out)⟩⟩)
        case rest =>
          obtain ⟨rfl, BK5, BK2, HB⟩ := hcut
          clear hs6 hvA0 hvA1 hvA2 hcA HB6 BK5s BK2s
          have h := H.out
          clear H
          by_cases he : (strOfNums (t.take 4)).toList = (strOfNums (l0.take 4)).toList
          · rw [if_pos he] at h
            have heb : decide (¬ (strOfNums (t.take 4)).toList = (strOfNums (l0.take 4)).toList) = false := decide_eq_false (by simpa using he)
            rw [heb]
            clear he heb
            unfold umpireref09_Head.tail at h
            by_cases c3 : (l0.length : Int) < 24
            · rw [if_pos c3] at h
              simp only [Option.some.injEq, Prod.mk.injEq] at h
              obtain ⟨rfl, rfl, rfl, rfl, rfl⟩ := h
              have c3b : decide ((l0.length : Int) < 24) = true := decide_eq_true c3
              clear c3
              have hc2c_0 : wc.cell? ⟨g2, 0, none⟩ = some (.bool false) := (blk_cell BK2.out 0).trans rfl
              have hf2c_0 := blk_frozen BK2.out 0
              have hc2c_1 : wc.cell? ⟨g2, 1, none⟩ = some (.bool false) := (blk_cell BK2.out 1).trans rfl
              have hf2c_1 := blk_frozen BK2.out 1
              have hc2c_2 : wc.cell? ⟨g2, 2, none⟩ = some (.int .u32 0) := (blk_cell BK2.out 2).trans rfl
              have hf2c_2 := blk_frozen BK2.out 2
              have hc2c_3 : wc.cell? ⟨g2, 3, none⟩ = some (.int .u32 0) := (blk_cell BK2.out 3).trans rfl
              have hf2c_3 := blk_frozen BK2.out 3
              go_wp2_with (fail)
              refine bodyPost_ret (results_ct rfl _ _ g2 24 #[.bool false, .bool false, .int .u32 0, .int .u32 0] (0, 0) _ rfl (by refine blk_put (cs := #[.bool false, .bool false, .int .u32 0, .int .u32 0]) ?_ 3 _ rfl; refine blk_put (cs := #[.bool false, .bool false, .int .u32 0, .int .u32 0]) ?_ 2 _ rfl; refine blk_put (cs := #[.bool false, .bool false, .int .u32 0, .int .u32 0]) ?_ 1 _ rfl; refine blk_put (cs := #[.bool false, .bool false, .int .u32 0, .int .u32 0]) ?_ 0 _ rfl; exact BK2.out) Try.underlying24 rfl (by kernel_rfl)) rfl ?_
              exact ⟨rfl, by repeat (first | with_reducible exact HB.out | with_reducible refine below_set ?_ GE2.out)⟩
            · rw [if_neg c3] at h
              have c3b : decide ((l0.length : Int) < 24) = false := decide_eq_false c3
              have H24 : Aside0 ((24 : Int) ≤ l0.length) := ⟨by omega⟩
              clear c3
              obtain ⟨t1, q1, h⟩ := Option.bind_eq_some_iff.1 h
              obtain ⟨A6, hcM, hrM, hlM, hlc⟩ := umpireref09_Head.cut46 A0 l0 c0 H24.out HC0.out
              have HCAL : Aside0 (∀ a : Nat, Calls Try.prog 50 #[.slice A6 2 (c0 - 4), .bool b0] (wc.drewN a) fun e w' => e = .returned (.int .u64 t1) ∧ ∃ m, w' = wc.drewN m) := ⟨fun a => by
                have hq := (umpireref02_Get.calls k A6 (c0 - 4) ((l0.take 6).drop 4) b0 t1 (wc.drewN a) (Kd.C_drewN (by rw [hlM]; exact hrM _ (Kd.C_below HR0.out HB.out)) a) (by rw [hlM]; exact hlc) q1)
                rw [hlM] at hq
                exact Calls.quiet_of (hq.mono fun _ _ h => ⟨h.1, h.2.out⟩)⟩
              have H := Aside0.mk h
              clear h q1 hrM hlM hlc
              have hc5c_0 : wc.cell? ⟨g5, 0, none⟩ = some (.bool b0) := (blk_cell BK5.out 0).trans rfl
              have hf5c_0 := blk_frozen BK5.out 0
              have hc5c_1 : wc.cell? ⟨g5, 1, none⟩ = some (.bool o0) := (blk_cell BK5.out 1).trans rfl
              have hf5c_1 := blk_frozen BK5.out 1
              have hc5c_2 : wc.cell? ⟨g5, 2, none⟩ = some (.int .u32 0) := (blk_cell BK5.out 2).trans rfl
              have hf5c_2 := blk_frozen BK5.out 2
              have hc5c_3 : wc.cell? ⟨g5, 3, none⟩ = some (.int .u32 0) := (blk_cell BK5.out 3).trans rfl
              have hf5c_3 := blk_frozen BK5.out 3
              go_wp2_with (fail)
              go_quiet ((go_at_call 50; exact HCAL.out _))
              have h := H.out
              have BK5q := Aside0.mk (blk_drewN BK5.out nq)
              have BK2q := Aside0.mk (blk_drewN BK2.out nq)
              have HBq := Aside0.mk (pw_below_drewN HB.out nq)
              generalize wc.drewN nq = wq at *
              clear H HCAL BK5 BK2 HB hc5c_0 hf5c_0 hc5c_1 hf5c_1 hc5c_2 hf5c_2 hc5c_3 hf5c_3
              by_cases ct : t1 = 2
              · rw [if_pos ct] at h
                have ctb : (t1 == 2) = true := by simpa using ct
                have ctc : (t1 != 2) = false := by simpa using ct
                clear ct
                obtain ⟨s1, q2, h⟩ := Option.bind_eq_some_iff.1 h
                obtain ⟨s2, q3, h⟩ := Option.bind_eq_some_iff.1 h
                simp only [Option.some.injEq, Prod.mk.injEq] at h
                obtain ⟨rfl, rfl, rfl, rfl, rfl⟩ := h
                have Q2 := Aside0.mk q2
                have Q3 := Aside0.mk q3
                clear q2 q3
                have hc5q_0 : wq.cell? ⟨g5, 0, none⟩ = some (.bool b0) := (blk_cell BK5q.out 0).trans rfl
                have hf5q_0 := blk_frozen BK5q.out 0
                have hc5q_1 : wq.cell? ⟨g5, 1, none⟩ = some (.bool o0) := (blk_cell BK5q.out 1).trans rfl
                have hf5q_1 := blk_frozen BK5q.out 1
                have hc5q_2 : wq.cell? ⟨g5, 2, none⟩ = some (.int .u32 0) := (blk_cell BK5q.out 2).trans rfl
                have hf5q_2 := blk_frozen BK5q.out 2
                have hc5q_3 : wq.cell? ⟨g5, 3, none⟩ = some (.int .u32 0) := (blk_cell BK5q.out 3).trans rfl
                have hf5q_3 := blk_frozen BK5q.out 3
                go_wp2_with (fail)
                refine (umpireref09_num.calls k A0 c0 l0 16 b0 s1 _ (Kd.C_below HR0.out HBq.out) HC0.out Q2.out).mono ?_
                rintro e w9 ⟨rfl, hd⟩
                have BK5_9 := Aside0.mk (blk_below BK5q.out hd.below)
                have BK2_9 := Aside0.mk (blk_below BK2q.out hd.below)
                have HB9 := Aside0.mk (below_step HBq.out hd.below)
                clear hd BK5q BK2q HBq hc5q_0 hf5q_0 hc5q_1 hf5q_1 hc5q_2 hf5q_2 hc5q_3 hf5q_3
                have hc59_0 : w9.cell? ⟨g5, 0, none⟩ = some (.bool b0) := (blk_cell BK5_9.out 0).trans rfl
                have hf59_0 := blk_frozen BK5_9.out 0
                have hc59_1 : w9.cell? ⟨g5, 1, none⟩ = some (.bool o0) := (blk_cell BK5_9.out 1).trans rfl
                have hf59_1 := blk_frozen BK5_9.out 1
                have hc59_2 : w9.cell? ⟨g5, 2, none⟩ = some (.int .u32 0) := (blk_cell BK5_9.out 2).trans rfl
                have hf59_2 := blk_frozen BK5_9.out 2
                have hc59_3 : w9.cell? ⟨g5, 3, none⟩ = some (.int .u32 0) := (blk_cell BK5_9.out 3).trans rfl
                have hf59_3 := blk_frozen BK5_9.out 3
                go_wp2_with (fail)
                refine (umpireref09_num.calls k A0 c0 l0 20 b0 s2 _ (Kd.C_below HR0.out (below_set HB9.out GE5.out)) HC0.out Q3.out).mono ?_
                rintro e w10 ⟨rfl, hd⟩
                have BK5_10 := Aside0.mk (blk_below (o := .cells #[.bool b0, .bool o0, .int .u32 s1, .int .u32 0] 24 (0, 0)) (g := g5) (by refine blk_put (cs := #[.bool b0, .bool o0, .int .u32 0, .int .u32 0]) ?_ 2 _ rfl; exact BK5_9.out) hd.below)
                have BK2_10 := Aside0.mk (blk_below (g := g2) (blk_far BK2_9.out NB.out _) hd.below)
                have HB10 := Aside0.mk (below_step (below_set HB9.out GE5.out) hd.below)
                clear hd BK5_9 BK2_9 HB9 hc59_0 hf59_0 hc59_1 hf59_1 hc59_2 hf59_2 hc59_3 hf59_3
                have hc5x_0 : w10.cell? ⟨g5, 0, none⟩ = some (.bool b0) := (blk_cell BK5_10.out 0).trans rfl
                have hf5x_0 := blk_frozen BK5_10.out 0
                have hc5x_1 : w10.cell? ⟨g5, 1, none⟩ = some (.bool o0) := (blk_cell BK5_10.out 1).trans rfl
                have hf5x_1 := blk_frozen BK5_10.out 1
                have hc5x_2 : w10.cell? ⟨g5, 2, none⟩ = some (.int .u32 s1) := (blk_cell BK5_10.out 2).trans rfl
                have hf5x_2 := blk_frozen BK5_10.out 2
                have hc5x_3 : w10.cell? ⟨g5, 3, none⟩ = some (.int .u32 0) := (blk_cell BK5_10.out 3).trans rfl
                have hf5x_3 := blk_frozen BK5_10.out 3
                have hc2x_0 : w10.cell? ⟨g2, 0, none⟩ = some (.bool false) := (blk_cell BK2_10.out 0).trans rfl
                have hf2x_0 := blk_frozen BK2_10.out 0
                have hc2x_1 : w10.cell? ⟨g2, 1, none⟩ = some (.bool false) := (blk_cell BK2_10.out 1).trans rfl
                have hf2x_1 := blk_frozen BK2_10.out 1
                have hc2x_2 : w10.cell? ⟨g2, 2, none⟩ = some (.int .u32 0) := (blk_cell BK2_10.out 2).trans rfl
                have hf2x_2 := blk_frozen BK2_10.out 2
                have hc2x_3 : w10.cell? ⟨g2, 3, none⟩ = some (.int .u32 0) := (blk_cell BK2_10.out 3).trans rfl
                have hf2x_3 := blk_frozen BK2_10.out 3
                have n25 : g2 ≠ g5 := NB.out
                have n52 : g5 ≠ g2 := NB.out.symm
                go_wp2_with (fail)
                have E2 := Aside0.mk (blk_far (p := ⟨g5, 3, none⟩) BK2_10.out NB.out (.int .u32 s2))
                refine bodyPost_ret (results_ct rfl _ _ g2 24 #[.bool b0, .bool o0, .int .u32 s1, .int .u32 s2] (0, 0) _ rfl (by refine blk_put (cs := #[.bool b0, .bool o0, .int .u32 s1, .int .u32 0]) ?_ 3 _ rfl; refine blk_put (cs := #[.bool b0, .bool o0, .int .u32 0, .int .u32 0]) ?_ 2 _ rfl; refine blk_put (cs := #[.bool b0, .bool false, .int .u32 0, .int .u32 0]) ?_ 1 _ rfl; refine blk_put (cs := #[.bool false, .bool false, .int .u32 0, .int .u32 0]) ?_ 0 _ rfl; exact E2.out) Try.underlying24 rfl (by kernel_rfl)) rfl ?_
                exact ⟨rfl, by repeat (first | with_reducible exact HB10.out | with_reducible refine below_set ?_ GE2.out | with_reducible refine below_set ?_ GE5.out)⟩
              · rw [if_neg ct] at h
                have ctb : (t1 == 2) = false := by simpa using ct
                have ctc : (t1 != 2) = true := by simpa using ct
                clear ct
                simp only [Option.some.injEq, Prod.mk.injEq] at h
                obtain ⟨rfl, rfl, rfl, rfl, rfl⟩ := h
                have hc2q_0 : wq.cell? ⟨g2, 0, none⟩ = some (.bool false) := (blk_cell BK2q.out 0).trans rfl
                have hf2q_0 := blk_frozen BK2q.out 0
                have hc2q_1 : wq.cell? ⟨g2, 1, none⟩ = some (.bool false) := (blk_cell BK2q.out 1).trans rfl
                have hf2q_1 := blk_frozen BK2q.out 1
                have hc2q_2 : wq.cell? ⟨g2, 2, none⟩ = some (.int .u32 0) := (blk_cell BK2q.out 2).trans rfl
                have hf2q_2 := blk_frozen BK2q.out 2
                have hc2q_3 : wq.cell? ⟨g2, 3, none⟩ = some (.int .u32 0) := (blk_cell BK2q.out 3).trans rfl
                have hf2q_3 := blk_frozen BK2q.out 3
                go_wp2_with (fail)
                refine bodyPost_ret (results_ct rfl _ _ g2 24 #[.bool false, .bool false, .int .u32 0, .int .u32 0] (0, 0) _ rfl (by refine blk_put (cs := #[.bool false, .bool false, .int .u32 0, .int .u32 0]) ?_ 3 _ rfl; refine blk_put (cs := #[.bool false, .bool false, .int .u32 0, .int .u32 0]) ?_ 2 _ rfl; refine blk_put (cs := #[.bool false, .bool false, .int .u32 0, .int .u32 0]) ?_ 1 _ rfl; refine blk_put (cs := #[.bool false, .bool false, .int .u32 0, .int .u32 0]) ?_ 0 _ rfl; exact BK2q.out) Try.underlying24 rfl (by kernel_rfl)) rfl ?_
                exact ⟨rfl, by repeat (first | with_reducible exact HBq.out | with_reducible refine below_set ?_ GE2.out)⟩
          · rw [if_neg he] at h
            have heb : decide (¬ (strOfNums (t.take 4)).toList = (strOfNums (l0.take 4)).toList) = true := decide_eq_true (by simpa using he)
            rw [heb]
            clear he heb
            have HN := Aside0.mk h
            clear h
            obtain ⟨gk2, rfl⟩ : ∃ q, gk = q + 1 := ⟨gk - 1, by have := HJ.out; omega⟩
            have hjw : IntKind.i64.wrap ((j : Int) + 1) = ((j + 1 : Nat) : Int) := by rw [IntWalk.i64_in _ (by omega)]; omega
            go_wp2_with (fail)
            go_roundg gk2
            case measure => omega
            case rel => exact ⟨j + 1, by have := HJ.out; omega, rfl, ⟨⟨BK2.out, HB.out, by rw [show 4 - (j + 1) = d from by have := HD.out; omega]; exact HN.out⟩⟩⟩
      · obtain rfl : j = 4 := by omega
        have h := HL.out
        simp only [Nat.sub_self, umpireref09_Head.try_, Option.some.injEq, Prod.mk.injEq] at h
        obtain ⟨rfl, rfl, rfl, rfl, rfl⟩ := h
        have hv : (((4 : Nat) : Int)) = 4 := rfl
        simp only [hv]
        clear HL
        go_wp2_with (fail)
        refine bodyPost_ret (results_ct rfl _ _ g2 24 #[.bool false, .bool false, .int .u32 0, .int .u32 0] (0, 0) _ rfl (by refine blk_put (cs := #[.bool false, .bool false, .int .u32 0, .int .u32 0]) ?_ 3 _ rfl; refine blk_put (cs := #[.bool false, .bool false, .int .u32 0, .int .u32 0]) ?_ 2 _ rfl; refine blk_put (cs := #[.bool false, .bool false, .int .u32 0, .int .u32 0]) ?_ 1 _ rfl; refine blk_put (cs := #[.bool false, .bool false, .int .u32 0, .int .u32 0]) ?_ 0 _ rfl; exact BK.out) Try.underlying24 rfl (by kernel_rfl)) rfl ?_
        exact ⟨rfl, by repeat (first | with_reducible exact HB.out | with_reducible refine below_set ?_ GE2.out)⟩

end Go.Proofs.Ytnjimecjpnjojaa.Print
