-- laid by this session's own program (wip/mkprint.sh) for this claim
import Derived.Test.YtgnonglkibhnhaaDoor0
import Derived.Test.YtgnonglkibhnhaaDoorM4
namespace Go.Proofs.YtgnonglkibhnhaaDoor.Print
open Go.RowKit Go.Proofs.YtgnonglkibhnhaaDoorW.PrintWords Go.Proofs.YtgnonglkibhnhaaDoorW.PrintLast Go.Proofs.YtgnonglkibhnhaaDoorW.PrintMore
attribute [local go_sem] max2_int min2_int max_two min_two max_three min_three max_four min_four   -- for this text's walks alone
set_option linter.unusedVariables false
set_option linter.unusedSimpArgs false

/-! ### dump_may: function 71 -/
def dump_may.j0 : Nat → Bool → Int → Int → List Int → Option (Bool)
 | 0, _, _, _, _ => none
 | k + 1, x11, x294000, x294001, x294002 => if x11 = true then (some false) else (if 0 ≤ x294000 then (if x294000 < 8 then (if ((rd_T131 formsG0 x294000).f0 = true) then (if x294001 = 0 then (some true) else (if ((rd_T131 formsG0 x294000).f1) > 0 then ((octet_Fits.f (IntKind.u64.wrap (x294001)) ((rd_T131 formsG0 x294000).f1)).bind fun t296 => (some t296)) else (some false))) else (if (x294002.length : Int) > 0 then (some false) else (if x294001 = 0 then (some true) else (if ((rd_T131 formsG0 x294000).f1) > 0 then ((octet_Fits.f (IntKind.u64.wrap (x294001)) ((rd_T131 formsG0 x294000).f1)).bind fun t297 => (some t297)) else (some false))))) else (none)) else (none))
def dump_may.f (k : Nat) (a0_0 : Int) (a0_1 : Int) (l0_2 : List Int) : Option (Bool) := if a0_0 < 1 then (dump_may.j0 k true a0_0 a0_1 l0_2) else (dump_may.j0 k (decide (a0_0 > 7)) a0_0 a0_1 l0_2)
set_option maxHeartbeats 8000000 in
set_option maxRecDepth 100000 in
theorem dump_may.calls (k : Nat) (a0_0 : Int) (a0_1 : Int) (A0_2 : Option Addr) (c0_2 : Nat) (l0_2 : List Int) (r : Bool) (w : World) (hG0 : Kd.C k131 w (some ⟨0, 0, none⟩) 8 formsG0) (hr0_2 : Kd.C (Kd.int .u8) w A0_2 l0_2.length l0_2) (hc0_2 : l0_2.length ≤ c0_2) (h : dump_may.f k a0_0 a0_1 l0_2 = some r) :
  Calls Tryd.prog 71 #[.agg #[.int .i64 a0_0, .int .u32 a0_1, .slice A0_2 l0_2.length c0_2]] w fun e w' => e = .returned (.bool r) ∧ Below w.heap.size w w' := by
 have hu58 := Tryd.underlying58
 have hu131 := Tryd.underlying131
 have HR0_2 := Aside0.mk hr0_2
 have HC0_2 := Aside0.mk hc0_2
 clear hr0_2 hc0_2
 have HRG0 := Aside0.mk hG0
 clear hG0
 have HB := Aside0.mk (Below.refl w.heap.size w)
 have H : (if a0_0 < 1 then (dump_may.j0 k true a0_0 a0_1 l0_2) else (dump_may.j0 k (decide (a0_0 > 7)) a0_0 a0_1 l0_2)) = some r := h
 clear h
 have HC2 := Aside0.mk H
 clear H
 go_enter Tryd.func71, Tryd.ntmps71
 go_upto_region 1 with (first | ((with_reducible refine gate_dst (N := 1) rfl ?_); (try (refine gate_guard (by rfl) ?_; dsimp only)); refine box_event ?hg (N := 1) ?hd (cs := #[.int .i64 a0_0, .int .u32 a0_1, .slice A0_2 l0_2.length c0_2]) (t := 58) ?hr ?_; (case hd => rfl); (case hg => rfl); (case hr => (go_simp; done)); intro gb293 hg w3 hbox hb; have BK293 := Aside0.mk (hbox); have GW293 := Aside0.mk ((by rw [hg]; exact (below_size HB.out) : w.heap.size ≤ gb293)); have GE293 := Aside0.mk ((by rw [hg]; exact (below_size HB.out) : w.heap.size ≤ gb293)); replace HB := Aside0.mk (below_step HB.out hb); clear hb hbox hg))
 (skip)
 go_cut [11] (fun v11 wc => ∃ (kq : Nat) (x11_1 : Bool), v11 = .bool x11_1 ∧ Aside0 (dump_may.j0 kq x11_1 a0_0 a0_1 l0_2 = some r) ∧ Aside0 (kq ≤ k) ∧ Aside0 (wc.heap[gb293]? = some (.cells #[.int .i64 a0_0, .int .u32 a0_1, (.slice A0_2 l0_2.length c0_2)] 58 (0, 0))) ∧ Aside0 (Below w.heap.size w wc))
 case first =>
  have H := HC2.out
  clear HC2
  by_cases c4 : a0_0 < 1
  ·rw [if_pos c4] at H
   have c4b0 : decide (a0_0 < 1) = true := decide_eq_true c4
   clear c4
   (skip)
   have H' := Aside0.mk H
   clear H
   have hcz5_0 : w3.cell? ⟨gb293, 0, none⟩ = some (.int .i64 a0_0) := (blk_cell BK293.out 0).trans rfl
   have hcz5_1 : w3.cell? ⟨gb293, 1, none⟩ = some (.int .u32 a0_1) := (blk_cell BK293.out 1).trans rfl
   have hcz5_2 : w3.cell? ⟨gb293, 2, none⟩ = some (.slice A0_2 l0_2.length c0_2) := (blk_cell BK293.out 2).trans rfl
   have hfz5_0 := blk_frozen BK293.out 0
   have hfz5_1 := blk_frozen BK293.out 1
   have hfz5_2 := blk_frozen BK293.out 2
   go_wp2
   go_meet
   case rel => exact ⟨_, (true), (by (rfl)), H', ⟨by (omega)⟩, ⟨by exact BK293.out⟩, ⟨by exact HB.out⟩⟩
  ·rw [if_neg c4] at H
   have c4b0 : decide (a0_0 < 1) = false := decide_eq_false c4
   clear c4
   (skip)
   have H' := Aside0.mk H
   clear H
   have hcz6_0 : w3.cell? ⟨gb293, 0, none⟩ = some (.int .i64 a0_0) := (blk_cell BK293.out 0).trans rfl
   have hcz6_1 : w3.cell? ⟨gb293, 1, none⟩ = some (.int .u32 a0_1) := (blk_cell BK293.out 1).trans rfl
   have hcz6_2 : w3.cell? ⟨gb293, 2, none⟩ = some (.slice A0_2 l0_2.length c0_2) := (blk_cell BK293.out 2).trans rfl
   have hfz6_0 := blk_frozen BK293.out 0
   have hfz6_1 := blk_frozen BK293.out 1
   have hfz6_2 := blk_frozen BK293.out 2
   go_wp2
   go_meet
   case rel => exact ⟨_, (decide (a0_0 > 7)), (by (rfl)), H', ⟨by (omega)⟩, ⟨by exact BK293.out⟩, ⟨by exact HB.out⟩⟩
 case rest =>
  clear HC2
  obtain ⟨kq, x11_1, rfl, HA, HJ1, BK293, HB⟩ := hcut
  cases kq with
  | zero => exact absurd HA.out (by simp [dump_may.j0])
  | succ kj1 =>
   have H := HA.out
   clear HA
   simp only [dump_may.j0] at H
   by_cases c7 : x11_1 = true
   ·subst c7
    rw [if_pos rfl] at H
    obtain rfl := Option.some.inj H
    go_wp2
    go_ret
    exact ⟨by (rfl), by exact HB.out⟩
   ·replace c7 := Bool.eq_false_iff.mpr c7
    subst c7
    rw [if_neg (show ¬ (false = true) by decide)] at H
    by_cases c8 : 0 ≤ a0_0
    ·rw [if_pos c8] at H
     have c8b0 : decide (0 ≤ a0_0) = true := decide_eq_true c8
     clear c8
     by_cases c9 : a0_0 < 8
     ·rw [if_pos c9] at H
      have c9b0 : decide (a0_0 < 8) = true := decide_eq_true c9
      clear c9
      obtain ⟨bq10, hbq10⟩ : ∃ b_ : Bool, b_ = ((rd_T131 formsG0 a0_0).f0) := ⟨_, rfl⟩
      replace H : (if (bq10 = true) then (if a0_1 = 0 then (some true) else (if ((rd_T131 formsG0 a0_0).f1) > 0 then ((octet_Fits.f (IntKind.u64.wrap (a0_1)) ((rd_T131 formsG0 a0_0).f1)).bind fun t296 => (some t296)) else (some false))) else (if (l0_2.length : Int) > 0 then (some false) else (if a0_1 = 0 then (some true) else (if ((rd_T131 formsG0 a0_0).f1) > 0 then ((octet_Fits.f (IntKind.u64.wrap (a0_1)) ((rd_T131 formsG0 a0_0).f1)).bind fun t297 => (some t297)) else (some false))))) = some r := by rw [← hbq10] at H; exact H
      have Nbq10 := Aside0.mk hbq10
      clear hbq10
      by_cases c11 : (bq10 = true)
      ·subst c11
       rw [if_pos rfl] at H
       by_cases c12 : a0_1 = 0
       ·rw [if_pos c12] at H
        have c12b0 : (a0_1 == 0) = true := beq_iff_eq.mpr c12
        have c12b1 : (a0_1 != 0) = false := bne_eq_false_iff_eq.mpr c12
        clear c12
        obtain rfl := Option.some.inj H
        have hcz13_0 : wc.cell? ⟨gb293, 0, none⟩ = some (.int .i64 a0_0) := (blk_cell BK293.out 0).trans rfl
        have hcz13_1 : wc.cell? ⟨gb293, 1, none⟩ = some (.int .u32 a0_1) := (blk_cell BK293.out 1).trans rfl
        have hcz13_2 : wc.cell? ⟨gb293, 2, none⟩ = some (.slice A0_2 l0_2.length c0_2) := (blk_cell BK293.out 2).trans rfl
        have hfz13_0 := blk_frozen BK293.out 0
        have hfz13_1 := blk_frozen BK293.out 1
        have hfz13_2 := blk_frozen BK293.out 2
        have p294 : 0 ≤ (a0_0 : Int) := of_decide_eq_true (by (with_reducible assumption))
        have q294 : a0_0 < (formsG0.length : Int) := of_decide_eq_true (by (assumption))
        obtain ⟨ad294, e294, hx294_0, hx294_1⟩ := at_T131 HRG0.out a0_0 p294 q294
        (try rw [← Nbq10.out] at hx294_0)
        obtain rfl : (⟨0, 0, none⟩ : Addr) = ad294 := (by injection e294)
        (simp only [add_plain] at hx294_0)
        (simp only [add_plain] at hx294_1)
        replace hx294_0 := (HB.out.cell (World.block_lt_of_cell? w _ hx294_0)).trans hx294_0
        replace hx294_1 := (HB.out.cell (World.block_lt_of_cell? w _ hx294_1)).trans hx294_1
        replace p294 := eq_true p294
        replace q294 := eq_true q294
        have qg294 : (a0_0 < 8) = True := q294
        go_wp2_with (first | ((with_reducible refine gate_dst (N := 3) rfl ?_); (try (refine gate_guard (by rfl) ?_; dsimp only)); refine box_event ?hg (N := 3) ?hd (cs := #[.bool false, .int .i64 0]) (t := 131) ?hr ?_; (case hd => rfl); (case hg => rfl); (case hr => (go_simp; done)); intro gb295 hg w14 hbox hb; have BK295 := Aside0.mk (hbox); have GW295 := Aside0.mk ((by rw [hg]; exact (below_size HB.out) : w.heap.size ≤ gb295)); have GE295 := Aside0.mk ((by rw [hg]; exact (below_size HB.out) : w.heap.size ≤ gb295)); have NB293_295 := Aside0.mk ((by rw [hg]; exact Nat.ne_of_lt (blk_lt BK293.out) : gb293 ≠ gb295)); have NB295_293 := Aside0.mk ((by rw [hg]; exact Nat.ne_of_gt (blk_lt BK293.out) : gb295 ≠ gb293)); replace BK293 := Aside0.mk (blk_below BK293.out hb); replace HB := Aside0.mk (below_step HB.out hb); clear hb hbox hg; have hnb15 := NB295_293.out; have hnc15 := NB293_295.out; have hcz16_0 : w14.cell? ⟨gb295, 0, none⟩ = some (.bool false) := (blk_cell BK295.out 0).trans rfl; have hcz16_1 : w14.cell? ⟨gb295, 1, none⟩ = some (.int .i64 0) := (blk_cell BK295.out 1).trans rfl; have hfz16_0 := blk_frozen BK295.out 0; have hfz16_1 := blk_frozen BK295.out 1; have hcz17_0 : w14.cell? ⟨gb293, 0, none⟩ = some (.int .i64 a0_0) := (blk_cell BK293.out 0).trans rfl; have hcz17_1 : w14.cell? ⟨gb293, 1, none⟩ = some (.int .u32 a0_1) := (blk_cell BK293.out 1).trans rfl; have hcz17_2 : w14.cell? ⟨gb293, 2, none⟩ = some (.slice A0_2 l0_2.length c0_2) := (blk_cell BK293.out 2).trans rfl; have hfz17_0 := blk_frozen BK293.out 0; have hfz17_1 := blk_frozen BK293.out 1; have hfz17_2 := blk_frozen BK293.out 2))
        go_ret
        exact ⟨by (rfl), by repeat (with_reducible first | exact HB.out | refine below_set ?_ GE295.out)⟩
       ·rw [if_neg c12] at H
        have c12b0 : (a0_1 == 0) = false := beq_eq_false_iff_ne.mpr c12
        have c12b1 : (a0_1 != 0) = true := bne_iff_ne.mpr c12
        by_cases c18 : ((rd_T131 formsG0 a0_0).f1) > 0
        ·rw [if_pos c18] at H
         have c18b0 : decide (0 < ((rd_T131 formsG0 a0_0).f1)) = true := decide_eq_true c18
         clear c18
         replace H := Option.bind_eq_some_iff.mp H
         obtain ⟨t296, A190, H⟩ := H
         have A19 := Aside0.mk A190
         clear A190
         obtain rfl := Option.some.inj H
         have hcz20_0 : wc.cell? ⟨gb293, 0, none⟩ = some (.int .i64 a0_0) := (blk_cell BK293.out 0).trans rfl
         have hcz20_1 : wc.cell? ⟨gb293, 1, none⟩ = some (.int .u32 a0_1) := (blk_cell BK293.out 1).trans rfl
         have hcz20_2 : wc.cell? ⟨gb293, 2, none⟩ = some (.slice A0_2 l0_2.length c0_2) := (blk_cell BK293.out 2).trans rfl
         have hfz20_0 := blk_frozen BK293.out 0
         have hfz20_1 := blk_frozen BK293.out 1
         have hfz20_2 := blk_frozen BK293.out 2
         have p294 : 0 ≤ (a0_0 : Int) := of_decide_eq_true (by (with_reducible assumption))
         have q294 : a0_0 < (formsG0.length : Int) := of_decide_eq_true (by (assumption))
         obtain ⟨ad294, e294, hx294_0, hx294_1⟩ := at_T131 HRG0.out a0_0 p294 q294
         (try rw [← Nbq10.out] at hx294_0)
         obtain rfl : (⟨0, 0, none⟩ : Addr) = ad294 := (by injection e294)
         (simp only [add_plain] at hx294_0)
         (simp only [add_plain] at hx294_1)
         replace hx294_0 := (HB.out.cell (World.block_lt_of_cell? w _ hx294_0)).trans hx294_0
         replace hx294_1 := (HB.out.cell (World.block_lt_of_cell? w _ hx294_1)).trans hx294_1
         replace p294 := eq_true p294
         replace q294 := eq_true q294
         have qg294 : (a0_0 < 8) = True := q294
         go_wp2_with (first | ((with_reducible refine gate_dst (N := 3) rfl ?_); (try (refine gate_guard (by rfl) ?_; dsimp only)); refine box_event ?hg (N := 3) ?hd (cs := #[.bool false, .int .i64 0]) (t := 131) ?hr ?_; (case hd => rfl); (case hg => rfl); (case hr => (go_simp; done)); intro gb295 hg w21 hbox hb; have BK295 := Aside0.mk (hbox); have GW295 := Aside0.mk ((by rw [hg]; exact (below_size HB.out) : w.heap.size ≤ gb295)); have GE295 := Aside0.mk ((by rw [hg]; exact (below_size HB.out) : w.heap.size ≤ gb295)); have NB293_295 := Aside0.mk ((by rw [hg]; exact Nat.ne_of_lt (blk_lt BK293.out) : gb293 ≠ gb295)); have NB295_293 := Aside0.mk ((by rw [hg]; exact Nat.ne_of_gt (blk_lt BK293.out) : gb295 ≠ gb293)); replace BK293 := Aside0.mk (blk_below BK293.out hb); replace HB := Aside0.mk (below_step HB.out hb); clear hb hbox hg; have hnb22 := NB295_293.out; have hnc22 := NB293_295.out; have hcz23_0 : w21.cell? ⟨gb295, 0, none⟩ = some (.bool false) := (blk_cell BK295.out 0).trans rfl; have hcz23_1 : w21.cell? ⟨gb295, 1, none⟩ = some (.int .i64 0) := (blk_cell BK295.out 1).trans rfl; have hfz23_0 := blk_frozen BK295.out 0; have hfz23_1 := blk_frozen BK295.out 1; have hcz24_0 : w21.cell? ⟨gb293, 0, none⟩ = some (.int .i64 a0_0) := (blk_cell BK293.out 0).trans rfl; have hcz24_1 : w21.cell? ⟨gb293, 1, none⟩ = some (.int .u32 a0_1) := (blk_cell BK293.out 1).trans rfl; have hcz24_2 : w21.cell? ⟨gb293, 2, none⟩ = some (.slice A0_2 l0_2.length c0_2) := (blk_cell BK293.out 2).trans rfl; have hfz24_0 := blk_frozen BK293.out 0; have hfz24_1 := blk_frozen BK293.out 1; have hfz24_2 := blk_frozen BK293.out 2) | (go_at_call 89; (with_reducible refine (octet_Fits.calls (IntKind.u64.wrap (a0_1)) ((rd_T131 formsG0 a0_0).f1) t296 _ A19.out).mono ?_); rintro e w' ⟨rfl, ⟨nd, rfl⟩⟩))
         go_ret
         exact ⟨by (rfl), by repeat (with_reducible first | exact HB.out | apply pw_below_drewN | refine below_set ?_ GE295.out)⟩
        ·rw [if_neg c18] at H
         have c18b0 : decide (0 < ((rd_T131 formsG0 a0_0).f1)) = false := decide_eq_false c18
         clear c18
         obtain rfl := Option.some.inj H
         have hcz25_0 : wc.cell? ⟨gb293, 0, none⟩ = some (.int .i64 a0_0) := (blk_cell BK293.out 0).trans rfl
         have hcz25_1 : wc.cell? ⟨gb293, 1, none⟩ = some (.int .u32 a0_1) := (blk_cell BK293.out 1).trans rfl
         have hcz25_2 : wc.cell? ⟨gb293, 2, none⟩ = some (.slice A0_2 l0_2.length c0_2) := (blk_cell BK293.out 2).trans rfl
         have hfz25_0 := blk_frozen BK293.out 0
         have hfz25_1 := blk_frozen BK293.out 1
         have hfz25_2 := blk_frozen BK293.out 2
         have p294 : 0 ≤ (a0_0 : Int) := of_decide_eq_true (by (with_reducible assumption))
         have q294 : a0_0 < (formsG0.length : Int) := of_decide_eq_true (by (assumption))
         obtain ⟨ad294, e294, hx294_0, hx294_1⟩ := at_T131 HRG0.out a0_0 p294 q294
         (try rw [← Nbq10.out] at hx294_0)
         obtain rfl : (⟨0, 0, none⟩ : Addr) = ad294 := (by injection e294)
         (simp only [add_plain] at hx294_0)
         (simp only [add_plain] at hx294_1)
         replace hx294_0 := (HB.out.cell (World.block_lt_of_cell? w _ hx294_0)).trans hx294_0
         replace hx294_1 := (HB.out.cell (World.block_lt_of_cell? w _ hx294_1)).trans hx294_1
         replace p294 := eq_true p294
         replace q294 := eq_true q294
         have qg294 : (a0_0 < 8) = True := q294
         go_wp2_with (first | ((with_reducible refine gate_dst (N := 3) rfl ?_); (try (refine gate_guard (by rfl) ?_; dsimp only)); refine box_event ?hg (N := 3) ?hd (cs := #[.bool false, .int .i64 0]) (t := 131) ?hr ?_; (case hd => rfl); (case hg => rfl); (case hr => (go_simp; done)); intro gb295 hg w26 hbox hb; have BK295 := Aside0.mk (hbox); have GW295 := Aside0.mk ((by rw [hg]; exact (below_size HB.out) : w.heap.size ≤ gb295)); have GE295 := Aside0.mk ((by rw [hg]; exact (below_size HB.out) : w.heap.size ≤ gb295)); have NB293_295 := Aside0.mk ((by rw [hg]; exact Nat.ne_of_lt (blk_lt BK293.out) : gb293 ≠ gb295)); have NB295_293 := Aside0.mk ((by rw [hg]; exact Nat.ne_of_gt (blk_lt BK293.out) : gb295 ≠ gb293)); replace BK293 := Aside0.mk (blk_below BK293.out hb); replace HB := Aside0.mk (below_step HB.out hb); clear hb hbox hg; have hnb27 := NB295_293.out; have hnc27 := NB293_295.out; have hcz28_0 : w26.cell? ⟨gb295, 0, none⟩ = some (.bool false) := (blk_cell BK295.out 0).trans rfl; have hcz28_1 : w26.cell? ⟨gb295, 1, none⟩ = some (.int .i64 0) := (blk_cell BK295.out 1).trans rfl; have hfz28_0 := blk_frozen BK295.out 0; have hfz28_1 := blk_frozen BK295.out 1; have hcz29_0 : w26.cell? ⟨gb293, 0, none⟩ = some (.int .i64 a0_0) := (blk_cell BK293.out 0).trans rfl; have hcz29_1 : w26.cell? ⟨gb293, 1, none⟩ = some (.int .u32 a0_1) := (blk_cell BK293.out 1).trans rfl; have hcz29_2 : w26.cell? ⟨gb293, 2, none⟩ = some (.slice A0_2 l0_2.length c0_2) := (blk_cell BK293.out 2).trans rfl; have hfz29_0 := blk_frozen BK293.out 0; have hfz29_1 := blk_frozen BK293.out 1; have hfz29_2 := blk_frozen BK293.out 2))
         go_ret
         exact ⟨by (rfl), by repeat (with_reducible first | exact HB.out | refine below_set ?_ GE295.out)⟩
      ·replace c11 := Bool.eq_false_iff.mpr c11
       subst c11
       rw [if_neg (show ¬ (false = true) by decide)] at H
       by_cases c30 : (l0_2.length : Int) > 0
       ·rw [if_pos c30] at H
        have c30b0 : decide (0 < (l0_2.length : Int)) = true := decide_eq_true c30
        have c30b1 : decide (0 < l0_2.length) = true := decide_eq_true (by omega)
        clear c30
        obtain rfl := Option.some.inj H
        have hcz31_0 : wc.cell? ⟨gb293, 0, none⟩ = some (.int .i64 a0_0) := (blk_cell BK293.out 0).trans rfl
        have hcz31_1 : wc.cell? ⟨gb293, 1, none⟩ = some (.int .u32 a0_1) := (blk_cell BK293.out 1).trans rfl
        have hcz31_2 : wc.cell? ⟨gb293, 2, none⟩ = some (.slice A0_2 l0_2.length c0_2) := (blk_cell BK293.out 2).trans rfl
        have hfz31_0 := blk_frozen BK293.out 0
        have hfz31_1 := blk_frozen BK293.out 1
        have hfz31_2 := blk_frozen BK293.out 2
        have p294 : 0 ≤ (a0_0 : Int) := of_decide_eq_true (by (with_reducible assumption))
        have q294 : a0_0 < (formsG0.length : Int) := of_decide_eq_true (by (assumption))
        obtain ⟨ad294, e294, hx294_0, hx294_1⟩ := at_T131 HRG0.out a0_0 p294 q294
        (try rw [← Nbq10.out] at hx294_0)
        obtain rfl : (⟨0, 0, none⟩ : Addr) = ad294 := (by injection e294)
        (simp only [add_plain] at hx294_0)
        (simp only [add_plain] at hx294_1)
        replace hx294_0 := (HB.out.cell (World.block_lt_of_cell? w _ hx294_0)).trans hx294_0
        replace hx294_1 := (HB.out.cell (World.block_lt_of_cell? w _ hx294_1)).trans hx294_1
        replace p294 := eq_true p294
        replace q294 := eq_true q294
        have qg294 : (a0_0 < 8) = True := q294
        go_wp2_with (first | ((with_reducible refine gate_dst (N := 3) rfl ?_); (try (refine gate_guard (by rfl) ?_; dsimp only)); refine box_event ?hg (N := 3) ?hd (cs := #[.bool false, .int .i64 0]) (t := 131) ?hr ?_; (case hd => rfl); (case hg => rfl); (case hr => (go_simp; done)); intro gb295 hg w32 hbox hb; have BK295 := Aside0.mk (hbox); have GW295 := Aside0.mk ((by rw [hg]; exact (below_size HB.out) : w.heap.size ≤ gb295)); have GE295 := Aside0.mk ((by rw [hg]; exact (below_size HB.out) : w.heap.size ≤ gb295)); have NB293_295 := Aside0.mk ((by rw [hg]; exact Nat.ne_of_lt (blk_lt BK293.out) : gb293 ≠ gb295)); have NB295_293 := Aside0.mk ((by rw [hg]; exact Nat.ne_of_gt (blk_lt BK293.out) : gb295 ≠ gb293)); replace BK293 := Aside0.mk (blk_below BK293.out hb); replace HB := Aside0.mk (below_step HB.out hb); clear hb hbox hg; have hnb33 := NB295_293.out; have hnc33 := NB293_295.out; have hcz34_0 : w32.cell? ⟨gb295, 0, none⟩ = some (.bool false) := (blk_cell BK295.out 0).trans rfl; have hcz34_1 : w32.cell? ⟨gb295, 1, none⟩ = some (.int .i64 0) := (blk_cell BK295.out 1).trans rfl; have hfz34_0 := blk_frozen BK295.out 0; have hfz34_1 := blk_frozen BK295.out 1; have hcz35_0 : w32.cell? ⟨gb293, 0, none⟩ = some (.int .i64 a0_0) := (blk_cell BK293.out 0).trans rfl; have hcz35_1 : w32.cell? ⟨gb293, 1, none⟩ = some (.int .u32 a0_1) := (blk_cell BK293.out 1).trans rfl; have hcz35_2 : w32.cell? ⟨gb293, 2, none⟩ = some (.slice A0_2 l0_2.length c0_2) := (blk_cell BK293.out 2).trans rfl; have hfz35_0 := blk_frozen BK293.out 0; have hfz35_1 := blk_frozen BK293.out 1; have hfz35_2 := blk_frozen BK293.out 2))
        go_ret
        exact ⟨by (rfl), by repeat (with_reducible first | exact HB.out | refine below_set ?_ GE295.out)⟩
       ·rw [if_neg c30] at H
        have c30b0 : decide (0 < (l0_2.length : Int)) = false := decide_eq_false c30
        have c30b1 : decide (0 < l0_2.length) = false := decide_eq_false (by omega)
        clear c30
        by_cases c36 : a0_1 = 0
        ·rw [if_pos c36] at H
         have c36b0 : (a0_1 == 0) = true := beq_iff_eq.mpr c36
         have c36b1 : (a0_1 != 0) = false := bne_eq_false_iff_eq.mpr c36
         clear c36
         obtain rfl := Option.some.inj H
         have hcz37_0 : wc.cell? ⟨gb293, 0, none⟩ = some (.int .i64 a0_0) := (blk_cell BK293.out 0).trans rfl
         have hcz37_1 : wc.cell? ⟨gb293, 1, none⟩ = some (.int .u32 a0_1) := (blk_cell BK293.out 1).trans rfl
         have hcz37_2 : wc.cell? ⟨gb293, 2, none⟩ = some (.slice A0_2 l0_2.length c0_2) := (blk_cell BK293.out 2).trans rfl
         have hfz37_0 := blk_frozen BK293.out 0
         have hfz37_1 := blk_frozen BK293.out 1
         have hfz37_2 := blk_frozen BK293.out 2
         have p294 : 0 ≤ (a0_0 : Int) := of_decide_eq_true (by (with_reducible assumption))
         have q294 : a0_0 < (formsG0.length : Int) := of_decide_eq_true (by (assumption))
         obtain ⟨ad294, e294, hx294_0, hx294_1⟩ := at_T131 HRG0.out a0_0 p294 q294
         (try rw [← Nbq10.out] at hx294_0)
         obtain rfl : (⟨0, 0, none⟩ : Addr) = ad294 := (by injection e294)
         (simp only [add_plain] at hx294_0)
         (simp only [add_plain] at hx294_1)
         replace hx294_0 := (HB.out.cell (World.block_lt_of_cell? w _ hx294_0)).trans hx294_0
         replace hx294_1 := (HB.out.cell (World.block_lt_of_cell? w _ hx294_1)).trans hx294_1
         replace p294 := eq_true p294
         replace q294 := eq_true q294
         have qg294 : (a0_0 < 8) = True := q294
         go_wp2_with (first | ((with_reducible refine gate_dst (N := 3) rfl ?_); (try (refine gate_guard (by rfl) ?_; dsimp only)); refine box_event ?hg (N := 3) ?hd (cs := #[.bool false, .int .i64 0]) (t := 131) ?hr ?_; (case hd => rfl); (case hg => rfl); (case hr => (go_simp; done)); intro gb295 hg w38 hbox hb; have BK295 := Aside0.mk (hbox); have GW295 := Aside0.mk ((by rw [hg]; exact (below_size HB.out) : w.heap.size ≤ gb295)); have GE295 := Aside0.mk ((by rw [hg]; exact (below_size HB.out) : w.heap.size ≤ gb295)); have NB293_295 := Aside0.mk ((by rw [hg]; exact Nat.ne_of_lt (blk_lt BK293.out) : gb293 ≠ gb295)); have NB295_293 := Aside0.mk ((by rw [hg]; exact Nat.ne_of_gt (blk_lt BK293.out) : gb295 ≠ gb293)); replace BK293 := Aside0.mk (blk_below BK293.out hb); replace HB := Aside0.mk (below_step HB.out hb); clear hb hbox hg; have hnb39 := NB295_293.out; have hnc39 := NB293_295.out; have hcz40_0 : w38.cell? ⟨gb295, 0, none⟩ = some (.bool false) := (blk_cell BK295.out 0).trans rfl; have hcz40_1 : w38.cell? ⟨gb295, 1, none⟩ = some (.int .i64 0) := (blk_cell BK295.out 1).trans rfl; have hfz40_0 := blk_frozen BK295.out 0; have hfz40_1 := blk_frozen BK295.out 1; have hcz41_0 : w38.cell? ⟨gb293, 0, none⟩ = some (.int .i64 a0_0) := (blk_cell BK293.out 0).trans rfl; have hcz41_1 : w38.cell? ⟨gb293, 1, none⟩ = some (.int .u32 a0_1) := (blk_cell BK293.out 1).trans rfl; have hcz41_2 : w38.cell? ⟨gb293, 2, none⟩ = some (.slice A0_2 l0_2.length c0_2) := (blk_cell BK293.out 2).trans rfl; have hfz41_0 := blk_frozen BK293.out 0; have hfz41_1 := blk_frozen BK293.out 1; have hfz41_2 := blk_frozen BK293.out 2))
         go_ret
         exact ⟨by (rfl), by repeat (with_reducible first | exact HB.out | refine below_set ?_ GE295.out)⟩
        ·rw [if_neg c36] at H
         have c36b0 : (a0_1 == 0) = false := beq_eq_false_iff_ne.mpr c36
         have c36b1 : (a0_1 != 0) = true := bne_iff_ne.mpr c36
         by_cases c42 : ((rd_T131 formsG0 a0_0).f1) > 0
         ·rw [if_pos c42] at H
          have c42b0 : decide (0 < ((rd_T131 formsG0 a0_0).f1)) = true := decide_eq_true c42
          clear c42
          replace H := Option.bind_eq_some_iff.mp H
          obtain ⟨t297, A430, H⟩ := H
          have A43 := Aside0.mk A430
          clear A430
          obtain rfl := Option.some.inj H
          have hcz44_0 : wc.cell? ⟨gb293, 0, none⟩ = some (.int .i64 a0_0) := (blk_cell BK293.out 0).trans rfl
          have hcz44_1 : wc.cell? ⟨gb293, 1, none⟩ = some (.int .u32 a0_1) := (blk_cell BK293.out 1).trans rfl
          have hcz44_2 : wc.cell? ⟨gb293, 2, none⟩ = some (.slice A0_2 l0_2.length c0_2) := (blk_cell BK293.out 2).trans rfl
          have hfz44_0 := blk_frozen BK293.out 0
          have hfz44_1 := blk_frozen BK293.out 1
          have hfz44_2 := blk_frozen BK293.out 2
          have p294 : 0 ≤ (a0_0 : Int) := of_decide_eq_true (by (with_reducible assumption))
          have q294 : a0_0 < (formsG0.length : Int) := of_decide_eq_true (by (assumption))
          obtain ⟨ad294, e294, hx294_0, hx294_1⟩ := at_T131 HRG0.out a0_0 p294 q294
          (try rw [← Nbq10.out] at hx294_0)
          obtain rfl : (⟨0, 0, none⟩ : Addr) = ad294 := (by injection e294)
          (simp only [add_plain] at hx294_0)
          (simp only [add_plain] at hx294_1)
          replace hx294_0 := (HB.out.cell (World.block_lt_of_cell? w _ hx294_0)).trans hx294_0
          replace hx294_1 := (HB.out.cell (World.block_lt_of_cell? w _ hx294_1)).trans hx294_1
          replace p294 := eq_true p294
          replace q294 := eq_true q294
          have qg294 : (a0_0 < 8) = True := q294
          go_wp2_with (first | ((with_reducible refine gate_dst (N := 3) rfl ?_); (try (refine gate_guard (by rfl) ?_; dsimp only)); refine box_event ?hg (N := 3) ?hd (cs := #[.bool false, .int .i64 0]) (t := 131) ?hr ?_; (case hd => rfl); (case hg => rfl); (case hr => (go_simp; done)); intro gb295 hg w45 hbox hb; have BK295 := Aside0.mk (hbox); have GW295 := Aside0.mk ((by rw [hg]; exact (below_size HB.out) : w.heap.size ≤ gb295)); have GE295 := Aside0.mk ((by rw [hg]; exact (below_size HB.out) : w.heap.size ≤ gb295)); have NB293_295 := Aside0.mk ((by rw [hg]; exact Nat.ne_of_lt (blk_lt BK293.out) : gb293 ≠ gb295)); have NB295_293 := Aside0.mk ((by rw [hg]; exact Nat.ne_of_gt (blk_lt BK293.out) : gb295 ≠ gb293)); replace BK293 := Aside0.mk (blk_below BK293.out hb); replace HB := Aside0.mk (below_step HB.out hb); clear hb hbox hg; have hnb46 := NB295_293.out; have hnc46 := NB293_295.out; have hcz47_0 : w45.cell? ⟨gb295, 0, none⟩ = some (.bool false) := (blk_cell BK295.out 0).trans rfl; have hcz47_1 : w45.cell? ⟨gb295, 1, none⟩ = some (.int .i64 0) := (blk_cell BK295.out 1).trans rfl; have hfz47_0 := blk_frozen BK295.out 0; have hfz47_1 := blk_frozen BK295.out 1; have hcz48_0 : w45.cell? ⟨gb293, 0, none⟩ = some (.int .i64 a0_0) := (blk_cell BK293.out 0).trans rfl; have hcz48_1 : w45.cell? ⟨gb293, 1, none⟩ = some (.int .u32 a0_1) := (blk_cell BK293.out 1).trans rfl; have hcz48_2 : w45.cell? ⟨gb293, 2, none⟩ = some (.slice A0_2 l0_2.length c0_2) := (blk_cell BK293.out 2).trans rfl; have hfz48_0 := blk_frozen BK293.out 0; have hfz48_1 := blk_frozen BK293.out 1; have hfz48_2 := blk_frozen BK293.out 2) | (go_at_call 89; (with_reducible refine (octet_Fits.calls (IntKind.u64.wrap (a0_1)) ((rd_T131 formsG0 a0_0).f1) t297 _ A43.out).mono ?_); rintro e w' ⟨rfl, ⟨nd, rfl⟩⟩))
          go_ret
          exact ⟨by (rfl), by repeat (with_reducible first | exact HB.out | apply pw_below_drewN | refine below_set ?_ GE295.out)⟩
         ·rw [if_neg c42] at H
          have c42b0 : decide (0 < ((rd_T131 formsG0 a0_0).f1)) = false := decide_eq_false c42
          clear c42
          obtain rfl := Option.some.inj H
          have hcz49_0 : wc.cell? ⟨gb293, 0, none⟩ = some (.int .i64 a0_0) := (blk_cell BK293.out 0).trans rfl
          have hcz49_1 : wc.cell? ⟨gb293, 1, none⟩ = some (.int .u32 a0_1) := (blk_cell BK293.out 1).trans rfl
          have hcz49_2 : wc.cell? ⟨gb293, 2, none⟩ = some (.slice A0_2 l0_2.length c0_2) := (blk_cell BK293.out 2).trans rfl
          have hfz49_0 := blk_frozen BK293.out 0
          have hfz49_1 := blk_frozen BK293.out 1
          have hfz49_2 := blk_frozen BK293.out 2
          have p294 : 0 ≤ (a0_0 : Int) := of_decide_eq_true (by (with_reducible assumption))
          have q294 : a0_0 < (formsG0.length : Int) := of_decide_eq_true (by (assumption))
          obtain ⟨ad294, e294, hx294_0, hx294_1⟩ := at_T131 HRG0.out a0_0 p294 q294
          (try rw [← Nbq10.out] at hx294_0)
          obtain rfl : (⟨0, 0, none⟩ : Addr) = ad294 := (by injection e294)
          (simp only [add_plain] at hx294_0)
          (simp only [add_plain] at hx294_1)
          replace hx294_0 := (HB.out.cell (World.block_lt_of_cell? w _ hx294_0)).trans hx294_0
          replace hx294_1 := (HB.out.cell (World.block_lt_of_cell? w _ hx294_1)).trans hx294_1
          replace p294 := eq_true p294
          replace q294 := eq_true q294
          have qg294 : (a0_0 < 8) = True := q294
          go_wp2_with (first | ((with_reducible refine gate_dst (N := 3) rfl ?_); (try (refine gate_guard (by rfl) ?_; dsimp only)); refine box_event ?hg (N := 3) ?hd (cs := #[.bool false, .int .i64 0]) (t := 131) ?hr ?_; (case hd => rfl); (case hg => rfl); (case hr => (go_simp; done)); intro gb295 hg w50 hbox hb; have BK295 := Aside0.mk (hbox); have GW295 := Aside0.mk ((by rw [hg]; exact (below_size HB.out) : w.heap.size ≤ gb295)); have GE295 := Aside0.mk ((by rw [hg]; exact (below_size HB.out) : w.heap.size ≤ gb295)); have NB293_295 := Aside0.mk ((by rw [hg]; exact Nat.ne_of_lt (blk_lt BK293.out) : gb293 ≠ gb295)); have NB295_293 := Aside0.mk ((by rw [hg]; exact Nat.ne_of_gt (blk_lt BK293.out) : gb295 ≠ gb293)); replace BK293 := Aside0.mk (blk_below BK293.out hb); replace HB := Aside0.mk (below_step HB.out hb); clear hb hbox hg; have hnb51 := NB295_293.out; have hnc51 := NB293_295.out; have hcz52_0 : w50.cell? ⟨gb295, 0, none⟩ = some (.bool false) := (blk_cell BK295.out 0).trans rfl; have hcz52_1 : w50.cell? ⟨gb295, 1, none⟩ = some (.int .i64 0) := (blk_cell BK295.out 1).trans rfl; have hfz52_0 := blk_frozen BK295.out 0; have hfz52_1 := blk_frozen BK295.out 1; have hcz53_0 : w50.cell? ⟨gb293, 0, none⟩ = some (.int .i64 a0_0) := (blk_cell BK293.out 0).trans rfl; have hcz53_1 : w50.cell? ⟨gb293, 1, none⟩ = some (.int .u32 a0_1) := (blk_cell BK293.out 1).trans rfl; have hcz53_2 : w50.cell? ⟨gb293, 2, none⟩ = some (.slice A0_2 l0_2.length c0_2) := (blk_cell BK293.out 2).trans rfl; have hfz53_0 := blk_frozen BK293.out 0; have hfz53_1 := blk_frozen BK293.out 1; have hfz53_2 := blk_frozen BK293.out 2))
          go_ret
          exact ⟨by (rfl), by repeat (with_reducible first | exact HB.out | refine below_set ?_ GE295.out)⟩
     ·rw [if_neg c9] at H
      exact absurd H (by simp)
    ·rw [if_neg c8] at H
     exact absurd H (by simp)

end Go.Proofs.YtgnonglkibhnhaaDoor.Print
