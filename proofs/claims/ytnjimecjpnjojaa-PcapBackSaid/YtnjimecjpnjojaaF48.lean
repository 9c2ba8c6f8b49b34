-- laid by this session's own program (wip/mkprint.sh) for this claim
import Derived.Test.Ytnjimecjpnjojaa0
import Derived.Test.YtnjimecjpnjojaaF49
namespace Go.Proofs.Ytnjimecjpnjojaa.Print
open Go.RowKit Go.Proofs.YtnjimecjpnjojaaW.PrintWords Go.Proofs.YtnjimecjpnjojaaW.PrintLast Go.Proofs.YtnjimecjpnjojaaW.PrintMore
attribute [local go_sem] max2_int min2_int max_two min_two max_three min_three max_four min_four   -- for this text's walks alone
set_option linter.unusedVariables false
set_option linter.unusedSimpArgs false

/-! ### pcap_order: function 48 -/
def pcap_order.f (k : Nat) (l0 : List Int) : Option (Bool × Bool × Int × Int × Bool) :=
  (pcap_numbers.num k l0 false 0 4).bind fun t1 => if t1 = 2712847316 then some (false, false, 0, 0, true) else if t1 = 2712812621 then some (false, true, 0, 0, true) else
    (pcap_numbers.num k l0 true 0 4).bind fun t2 => if t2 = 2712847316 then some (true, false, 0, 0, true) else if t2 = 2712812621 then some (true, true, 0, 0, true) else some (false, false, 0, 0, false)
theorem pcap_order.mono (l0 : List Int) (k : Nat) : LeO (pcap_order.f k l0) (pcap_order.f (k + 1) l0) := by
  unfold pcap_order.f
  refine LeO.bind (pcap_numbers.mono _ _ _ _ k) (fun _ => LeO.ite (LeO.refl _) (LeO.ite (LeO.refl _) ?_))
  exact LeO.bind (pcap_numbers.mono _ _ _ _ k) (fun _ => LeO.refl _)
/-- What is known behind so many tries. -/
def pcap_order.left (k : Nat) (l0 : List Int) (j : Nat) (r : Bool × Bool × Int × Int × Bool) : Prop :=
  match j with
  | 0 => pcap_order.f k l0 = some r
  | 1 => ((pcap_numbers.num k l0 true 0 4).bind fun t2 => if t2 = 2712847316 then some (true, false, 0, 0, true) else if t2 = 2712812621 then some (true, true, 0, 0, true) else some (false, false, 0, 0, false)) = some r
  | _ => (false, false, 0, 0, false) = r
theorem pcap_order.left_step {k : Nat} {l0 : List Int} {j : Nat} {r : Bool × Bool × Int × Int × Bool} (hj : j < 2) (h : pcap_order.left k l0 j r) :
    ∃ t, pcap_numbers.num k l0 (decide (j = 1)) 0 4 = some t ∧ (t = 2712847316 → (decide (j = 1), false, 0, 0, true) = r) ∧ (t ≠ 2712847316 → t = 2712812621 → (decide (j = 1), true, 0, 0, true) = r) ∧ (t ≠ 2712847316 → t ≠ 2712812621 → pcap_order.left k l0 (j + 1) r) := by
  have hc : j = 0 ∨ j = 1 := by omega
  rcases hc with rfl | rfl
  · obtain ⟨t, ht, h⟩ := Option.bind_eq_some_iff.1 (show pcap_order.f k l0 = some r from h)
    refine ⟨t, ht, fun h1 => ?_, fun h1 h2 => ?_, fun h1 h2 => ?_⟩
    · rw [if_pos h1] at h; exact Option.some.inj h
    · rw [if_neg h1, if_pos h2] at h; exact Option.some.inj h
    · rw [if_neg h1, if_neg h2] at h; exact h
  · obtain ⟨t, ht, h⟩ := Option.bind_eq_some_iff.1 h
    refine ⟨t, ht, fun h1 => ?_, fun h1 h2 => ?_, fun h1 h2 => ?_⟩
    · rw [if_pos h1] at h; exact Option.some.inj h
    · rw [if_neg h1, if_pos h2] at h; exact Option.some.inj h
    · rw [if_neg h1, if_neg h2] at h; exact Option.some.inj h
/-- What stands before a try. -/
structure pcap_order.Round (w W : World) (gq g2 k : Nat) (l0 : List Int) (j : Nat) (r : Bool × Bool × Int × Int × Bool) : Prop where
  hr : W.heap[gq]? = some (.cells #[.bool false, .bool true] 4 (0, 0))
  h2 : W.heap[g2]? = some (.cells #[.bool false, .bool false, .int .u32 0, .int .u32 0] 24 (0, 0))
  hb : Below w.heap.size w W
  hl : pcap_order.left k l0 j r
set_option maxHeartbeats 8000000 in
set_option maxRecDepth 100000 in
theorem pcap_order.calls (k : Nat) (A0 : Option Addr) (c0 : Nat) (l0 : List Int) (r1 r2 : Bool) (r3 r4 : Int) (r5 : Bool) (w : World) (hr0 : Kd.C (Kd.int .u8) w A0 l0.length l0) (hc0 : l0.length ≤ c0) (h4 : 4 ≤ l0.length) (h : pcap_order.f k l0 = some (r1, r2, r3, r4, r5)) :
    Calls Try.prog 48 #[.slice A0 l0.length c0] w fun e w' => e = .returned (.tuple #[.agg #[.bool r1, .bool r2, .int .u32 r3, .int .u32 r4], .bool r5]) ∧ Below w.heap.size w w' := by
  have huM := Try.underlying24
  have HR0 := Aside0.mk hr0
  have HC0 := Aside0.mk hc0
  have HW := Aside0.mk (Below.refl w.heap.size w)
  have HF := Aside0.mk (show pcap_order.left k l0 0 (r1, r2, r3, r4, r5) from h)
  have H4 := Aside0.mk h4
  clear hr0 hc0 h h4
  go_enter Try.func48, Try.ntmps48
  go_wp2_with (((with_reducible refine gate_dst (N := 2) rfl ?_); refine box_event ?hg (N := 2) ?hd (cs := #[.bool false, .bool false, .int .u32 0, .int .u32 0]) (t := 24) ?hr ?_; (case hd => rfl); (case hg => rfl); (case hr => (go_simp; done)); intro g2 hg w1 hbox hb; have BK2 := Aside0.mk hbox; have HB1 := Aside0.mk (below_step HW.out hb); have GE2 : Aside0 (w.heap.size ≤ g2) := ⟨by rw [hg]; exact Nat.le_refl _⟩; clear hg hbox hb; have hc2_0 : w1.cell? ⟨g2, 0, none⟩ = some (.bool false) := (blk_cell BK2.out 0).trans rfl; have hf2_0 := blk_frozen BK2.out 0; have hc2_1 : w1.cell? ⟨g2, 1, none⟩ = some (.bool false) := (blk_cell BK2.out 1).trans rfl; have hf2_1 := blk_frozen BK2.out 1; have hc2_2 : w1.cell? ⟨g2, 2, none⟩ = some (.int .u32 0) := (blk_cell BK2.out 2).trans rfl; have hf2_2 := blk_frozen BK2.out 2; have hc2_3 : w1.cell? ⟨g2, 3, none⟩ = some (.int .u32 0) := (blk_cell BK2.out 3).trans rfl; have hf2_3 := blk_frozen BK2.out 3))
  obtain ⟨gq, hgq⟩ : ∃ gq, gq = w1.heap.size := ⟨_, rfl⟩
  have BR := Aside0.mk (blk_new w1 (Obj.cells #[.bool false, .bool true] 4))
  have BK2_2 := Aside0.mk (blk_alloc BK2.out (Obj.cells #[.bool false, .bool true] 4))
  have HB2 := Aside0.mk (below_alloc HB1.out (Obj.cells #[.bool false, .bool true] 4))
  rw [← hgq] at BR ⊢
  generalize w1.alloc (Obj.cells #[.bool false, .bool true] 4) = w2 at BR BK2_2 HB2 ⊢
  clear hgq BK2 HB1 hc2_0 hc2_1 hc2_2 hc2_3 hf2_0 hf2_1 hf2_2 hf2_3 HW
  go_loopg [8] 2 (fun kq v8 w' => ∃ j : Nat, kq + j = 2 ∧ v8 = .int .i64 (j : Int) ∧ Aside0 (pcap_order.Round w w' gq g2 k l0 j (r1, r2, r3, r4, r5)))
  case atStart => exact ⟨0, rfl, rfl, ⟨⟨BR.out, BK2_2.out, HB2.out, HF.out⟩⟩⟩
  case round =>
    obtain ⟨j, hj, rfl, HI⟩ := hrel
    clear BR BK2_2 HB2 HF
    have HK := Aside0.mk HI.out.hr
    have BK := Aside0.mk HI.out.h2
    have HB := Aside0.mk HI.out.hb
    have HL := Aside0.mk HI.out.hl
    clear HI
    have hc2_0 : wr.cell? ⟨g2, 0, none⟩ = some (.bool false) := (blk_cell BK.out 0).trans rfl
    have hc2_1 : wr.cell? ⟨g2, 1, none⟩ = some (.bool false) := (blk_cell BK.out 1).trans rfl
    have hc2_2 : wr.cell? ⟨g2, 2, none⟩ = some (.int .u32 0) := (blk_cell BK.out 2).trans rfl
    have hc2_3 : wr.cell? ⟨g2, 3, none⟩ = some (.int .u32 0) := (blk_cell BK.out 3).trans rfl
    have hf2_0 := blk_frozen BK.out 0
    have hf2_1 := blk_frozen BK.out 1
    have hf2_2 := blk_frozen BK.out 2
    have hf2_3 := blk_frozen BK.out 3
    by_cases hlt : j < 2
    · obtain ⟨t, ht, e1, e2, e3⟩ := pcap_order.left_step hlt HL.out
      obtain ⟨k1, rfl⟩ : ∃ k1, gk = k1 + 1 := ⟨gk - 1, by omega⟩
      have HT := Aside0.mk ht
      have E1 := Aside0.mk e1
      have E2 := Aside0.mk e2
      have E3 := Aside0.mk e3
      clear ht e1 e2 e3 HL
      rcases (show j = 0 ∨ j = 1 by omega) with rfl | rfl
      · have hcq : wr.cell? ⟨gq, 0, none⟩ = some (.bool false) := (blk_cell HK.out 0).trans rfl
        have hv : ((0 : Nat) : Int) = 0 := rfl
        simp only [hv]
        go_wp2_with (fail)
        refine (pcap_numbers.calls A0 l0.length c0 false _).mono ?_
        rintro e w3 ⟨gb, ga, gg, rfl, hI, hb⟩
        have BK3 := Aside0.mk (blk_below BK.out hb)
        have HK3 := Aside0.mk (blk_below HK.out hb)
        have HB3 := Aside0.mk (below_step HB.out hb)
        have LA := Aside0.mk (Nat.le_trans (below_size HB.out) hI.la)
        have I3 := Aside0.mk (hI.lower (below_size HB.out))
        have NB2 : Aside0 (g2 ≠ ga) := ⟨blk_ne BK3.out hI.ha (by decide)⟩
        have NBQ : Aside0 (gq ≠ ga) := ⟨blk_ne HK3.out hI.ha (by decide)⟩
        clear hI hb
        go_wp2_with (fail)
        refine (pcap_numbers.next k A0 l0 c0 false 0 4 t _ gb ga gg _ I3.out (Kd.C_below HR0.out HB3.out) HC0.out (by omega) (by omega) (by have := H4.out; omega) HT.out).mono ?_
        rintro e w4 ⟨rfl, hI, hk, hb⟩
        have BK4 := Aside0.mk (hk.blk BK3.out NB2.out (by simp))
        have HK4 := Aside0.mk (hk.blk HK3.out NBQ.out (by simp))
        have HB4 := Aside0.mk (hb w HB3.out LA.out)
        clear hI hk hb BK3 HK3 HB3 I3
        have hc4_0 : w4.cell? ⟨g2, 0, none⟩ = some (.bool false) := (blk_cell BK4.out 0).trans rfl
        have hf4_0 := blk_frozen BK4.out 0
        have hc4_1 : w4.cell? ⟨g2, 1, none⟩ = some (.bool false) := (blk_cell BK4.out 1).trans rfl
        have hf4_1 := blk_frozen BK4.out 1
        have hc4_2 : w4.cell? ⟨g2, 2, none⟩ = some (.int .u32 0) := (blk_cell BK4.out 2).trans rfl
        have hf4_2 := blk_frozen BK4.out 2
        have hc4_3 : w4.cell? ⟨g2, 3, none⟩ = some (.int .u32 0) := (blk_cell BK4.out 3).trans rfl
        have hf4_3 := blk_frozen BK4.out 3
        by_cases c1 : t = 2712847316
        · have c1b : (t == 2712847316) = true := by simpa using c1
          have h : (false, false, (0 : Int), (0 : Int), true) = (r1, r2, r3, r4, r5) := E1.out c1
          simp only [Prod.mk.injEq] at h
          obtain ⟨rfl, rfl, rfl, rfl, rfl⟩ := h
          clear E1 E2 E3 c1
          go_wp2_with (fail)
          refine bodyPost_ret (results_ct rfl _ _ g2 24 #[.bool false, .bool false, .int .u32 0, .int .u32 0] (0, 0) _ rfl (by refine blk_put (cs := #[.bool false, .bool false, .int .u32 0, .int .u32 0]) ?_ 3 _ rfl; refine blk_put (cs := #[.bool false, .bool false, .int .u32 0, .int .u32 0]) ?_ 2 _ rfl; refine blk_put (cs := #[.bool false, .bool false, .int .u32 0, .int .u32 0]) ?_ 1 _ rfl; refine blk_put (cs := #[.bool false, .bool false, .int .u32 0, .int .u32 0]) ?_ 0 _ rfl; exact BK4.out) Try.underlying24 rfl (by kernel_rfl)) rfl ?_; exact ⟨rfl, by repeat (first | exact HB4.out | refine below_set ?_ GE2.out)⟩
        · by_cases c2 : t = 2712812621
          · have c1b : (t == 2712847316) = false := by simpa using c1
            have c2b : (t == 2712812621) = true := by simpa using c2
            have h : (false, true, (0 : Int), (0 : Int), true) = (r1, r2, r3, r4, r5) := E2.out c1 c2
            simp only [Prod.mk.injEq] at h
            obtain ⟨rfl, rfl, rfl, rfl, rfl⟩ := h
            clear E1 E2 E3 c1 c2
            go_wp2_with (fail)
            refine bodyPost_ret (results_ct rfl _ _ g2 24 #[.bool false, .bool true, .int .u32 0, .int .u32 0] (0, 0) _ rfl (by refine blk_put (cs := #[.bool false, .bool true, .int .u32 0, .int .u32 0]) ?_ 3 _ rfl; refine blk_put (cs := #[.bool false, .bool true, .int .u32 0, .int .u32 0]) ?_ 2 _ rfl; refine blk_put (cs := #[.bool false, .bool false, .int .u32 0, .int .u32 0]) ?_ 1 _ rfl; refine blk_put (cs := #[.bool false, .bool false, .int .u32 0, .int .u32 0]) ?_ 0 _ rfl; exact BK4.out) Try.underlying24 rfl (by kernel_rfl)) rfl ?_; exact ⟨rfl, by repeat (first | exact HB4.out | refine below_set ?_ GE2.out)⟩
          · have c1b : (t == 2712847316) = false := by simpa using c1
            have c2b : (t == 2712812621) = false := by simpa using c2
            have HL : Aside0 (pcap_order.left k l0 1 (r1, r2, r3, r4, r5)) := ⟨E3.out c1 c2⟩
            clear E1 E2 E3 c1 c2
            go_wp2_with (fail)
            go_roundg k1
            case measure => omega
            case rel => exact ⟨1, by omega, rfl, ⟨⟨HK4.out, BK4.out, HB4.out, HL.out⟩⟩⟩
      · have hcq : wr.cell? ⟨gq, 1, none⟩ = some (.bool true) := (blk_cell HK.out 1).trans rfl
        have hv : ((1 : Nat) : Int) = 1 := rfl
        simp only [hv]
        go_wp2_with (fail)
        refine (pcap_numbers.calls A0 l0.length c0 true _).mono ?_
        rintro e w3 ⟨gb, ga, gg, rfl, hI, hb⟩
        have BK3 := Aside0.mk (blk_below BK.out hb)
        have HK3 := Aside0.mk (blk_below HK.out hb)
        have HB3 := Aside0.mk (below_step HB.out hb)
        have LA := Aside0.mk (Nat.le_trans (below_size HB.out) hI.la)
        have I3 := Aside0.mk (hI.lower (below_size HB.out))
        have NB2 : Aside0 (g2 ≠ ga) := ⟨blk_ne BK3.out hI.ha (by decide)⟩
        have NBQ : Aside0 (gq ≠ ga) := ⟨blk_ne HK3.out hI.ha (by decide)⟩
        clear hI hb
        go_wp2_with (fail)
        refine (pcap_numbers.next k A0 l0 c0 true 0 4 t _ gb ga gg _ I3.out (Kd.C_below HR0.out HB3.out) HC0.out (by omega) (by omega) (by have := H4.out; omega) HT.out).mono ?_
        rintro e w4 ⟨rfl, hI, hk, hb⟩
        have BK4 := Aside0.mk (hk.blk BK3.out NB2.out (by simp))
        have HK4 := Aside0.mk (hk.blk HK3.out NBQ.out (by simp))
        have HB4 := Aside0.mk (hb w HB3.out LA.out)
        clear hI hk hb BK3 HK3 HB3 I3
        have hc4_0 : w4.cell? ⟨g2, 0, none⟩ = some (.bool false) := (blk_cell BK4.out 0).trans rfl
        have hf4_0 := blk_frozen BK4.out 0
        have hc4_1 : w4.cell? ⟨g2, 1, none⟩ = some (.bool false) := (blk_cell BK4.out 1).trans rfl
        have hf4_1 := blk_frozen BK4.out 1
        have hc4_2 : w4.cell? ⟨g2, 2, none⟩ = some (.int .u32 0) := (blk_cell BK4.out 2).trans rfl
        have hf4_2 := blk_frozen BK4.out 2
        have hc4_3 : w4.cell? ⟨g2, 3, none⟩ = some (.int .u32 0) := (blk_cell BK4.out 3).trans rfl
        have hf4_3 := blk_frozen BK4.out 3
        by_cases c1 : t = 2712847316
        · have c1b : (t == 2712847316) = true := by simpa using c1
          have h : (true, false, (0 : Int), (0 : Int), true) = (r1, r2, r3, r4, r5) := E1.out c1
          simp only [Prod.mk.injEq] at h
          obtain ⟨rfl, rfl, rfl, rfl, rfl⟩ := h
          clear E1 E2 E3 c1
          go_wp2_with (fail)
          refine bodyPost_ret (results_ct rfl _ _ g2 24 #[.bool true, .bool false, .int .u32 0, .int .u32 0] (0, 0) _ rfl (by refine blk_put (cs := #[.bool true, .bool false, .int .u32 0, .int .u32 0]) ?_ 3 _ rfl; refine blk_put (cs := #[.bool true, .bool false, .int .u32 0, .int .u32 0]) ?_ 2 _ rfl; refine blk_put (cs := #[.bool true, .bool false, .int .u32 0, .int .u32 0]) ?_ 1 _ rfl; refine blk_put (cs := #[.bool false, .bool false, .int .u32 0, .int .u32 0]) ?_ 0 _ rfl; exact BK4.out) Try.underlying24 rfl (by kernel_rfl)) rfl ?_; exact ⟨rfl, by repeat (first | exact HB4.out | refine below_set ?_ GE2.out)⟩
        · by_cases c2 : t = 2712812621
          · have c1b : (t == 2712847316) = false := by simpa using c1
            have c2b : (t == 2712812621) = true := by simpa using c2
            have h : (true, true, (0 : Int), (0 : Int), true) = (r1, r2, r3, r4, r5) := E2.out c1 c2
            simp only [Prod.mk.injEq] at h
            obtain ⟨rfl, rfl, rfl, rfl, rfl⟩ := h
            clear E1 E2 E3 c1 c2
            go_wp2_with (fail)
            refine bodyPost_ret (results_ct rfl _ _ g2 24 #[.bool true, .bool true, .int .u32 0, .int .u32 0] (0, 0) _ rfl (by refine blk_put (cs := #[.bool true, .bool true, .int .u32 0, .int .u32 0]) ?_ 3 _ rfl; refine blk_put (cs := #[.bool true, .bool true, .int .u32 0, .int .u32 0]) ?_ 2 _ rfl; refine blk_put (cs := #[.bool true, .bool false, .int .u32 0, .int .u32 0]) ?_ 1 _ rfl; refine blk_put (cs := #[.bool false, .bool false, .int .u32 0, .int .u32 0]) ?_ 0 _ rfl; exact BK4.out) Try.underlying24 rfl (by kernel_rfl)) rfl ?_; exact ⟨rfl, by repeat (first | exact HB4.out | refine below_set ?_ GE2.out)⟩
          · have c1b : (t == 2712847316) = false := by simpa using c1
            have c2b : (t == 2712812621) = false := by simpa using c2
            have HL : Aside0 (pcap_order.left k l0 2 (r1, r2, r3, r4, r5)) := ⟨E3.out c1 c2⟩
            clear E1 E2 E3 c1 c2
            go_wp2_with (fail)
            go_roundg k1
            case measure => omega
            case rel => exact ⟨2, by omega, rfl, ⟨⟨HK4.out, BK4.out, HB4.out, HL.out⟩⟩⟩
    · obtain rfl : j = 2 := by omega
      have h : (false, false, (0 : Int), (0 : Int), false) = (r1, r2, r3, r4, r5) := HL.out
      simp only [Prod.mk.injEq] at h
      obtain ⟨rfl, rfl, rfl, rfl, rfl⟩ := h
      have hv : ((2 : Nat) : Int) = 2 := rfl
      simp only [hv]
      clear HL
      go_wp2_with (fail)
      refine bodyPost_ret (results_ct rfl _ _ g2 24 #[.bool false, .bool false, .int .u32 0, .int .u32 0] (0, 0) _ rfl (by refine blk_put (cs := #[.bool false, .bool false, .int .u32 0, .int .u32 0]) ?_ 3 _ rfl; refine blk_put (cs := #[.bool false, .bool false, .int .u32 0, .int .u32 0]) ?_ 2 _ rfl; refine blk_put (cs := #[.bool false, .bool false, .int .u32 0, .int .u32 0]) ?_ 1 _ rfl; refine blk_put (cs := #[.bool false, .bool false, .int .u32 0, .int .u32 0]) ?_ 0 _ rfl; exact BK.out) Try.underlying24 rfl (by kernel_rfl)) rfl ?_; exact ⟨rfl, by repeat (first | exact HB.out | refine below_set ?_ GE2.out)⟩

end Go.Proofs.Ytnjimecjpnjojaa.Print
