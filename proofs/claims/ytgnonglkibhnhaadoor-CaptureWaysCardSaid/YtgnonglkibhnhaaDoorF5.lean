-- laid by this session's own program (wip/mkprint.sh) for this claim
import Derived.Test.YtgnonglkibhnhaaDoor0
import Derived.Test.YtgnonglkibhnhaaDoorM1
import Derived.Test.YtgnonglkibhnhaaDoorM5
import Derived.Test.YtgnonglkibhnhaaDoorM3
import Derived.Test.YtgnonglkibhnhaaDoorF14
import Derived.Test.YtgnonglkibhnhaaDoorF9
namespace Go.Proofs.YtgnonglkibhnhaaDoor.Print
open Go.RowKit Go.Proofs.YtgnonglkibhnhaaDoorW.PrintWords Go.Proofs.YtgnonglkibhnhaaDoorW.PrintLast Go.Proofs.YtgnonglkibhnhaaDoorW.PrintMore
attribute [local go_sem] max2_int min2_int max_two min_two max_three min_three max_four min_four   -- for this text's walks alone
set_option linter.unusedVariables false
set_option linter.unusedSimpArgs false

attribute [local go_sem high] eqA30
/-! ### umpirelaw11_CaptureWays: function 5 -/
mutual
def umpirelaw11_CaptureWays.j0 : Nat → List (S42) → Bool → Int → Int → Int → Int → ByteArray → ByteArray → Int → Int → Bool → Option (Bool)
 | 0, _, _, _, _, _, _, _, _, _, _, _ => none
 | k + 1, x0, x16, x930000, x930001, x930002, x930003, x930004, x930005, x930006, x930007, x930008 => if x16 = true then ((umpirelaw11_awake.f k).bind fun t932 => (some t932)) else (umpirelaw11_CaptureWays.l0 k x0 1 x930000 x930001 x930002 x930003 x930004 x930005 x930006 x930007 x930008)
def umpirelaw11_CaptureWays.l0 : Nat → List (S42) → Int → Int → Int → Int → Int → ByteArray → ByteArray → Int → Int → Bool → Option (Bool)
 | 0, _, _, _, _, _, _, _, _, _, _, _ => none
 | k + 1, x0, x5, x930000, x930001, x930002, x930003, x930004, x930005, x930006, x930007, x930008 => if x5 ≤ 2 then ((capture_Write.f k x0 x5 x930000 x930001 x930002 x930003 x930004 x930005 x930006 x930007 x930008).bind fun bt933 => (if bt933.2 = 0 then ((capture_Read.f k bt933.1 x5 x930000 x930001 x930002 x930003 x930004 x930005 x930006 x930007 x930008).bind fun bt937 => (if (!(bt937.2.1 == 0) || (!(bt937.2.2 == 0))) = true then (none) else ((umpireref11_Same.f k bt937.1 x0).bind fun t943 => (if t943 = true then (umpirelaw11_CaptureWays.l0 k x0 (wrap64 (x5 + 1)) x930000 x930001 x930002 x930003 x930004 x930005 x930006 x930007 x930008) else (none))))) else (if bt933.2 = 1 then (some ((bt933.1.length : Int) == 0)) else (none)))) else (some true)
end
def umpirelaw11_CaptureWays.f (k : Nat) (l0 : List (S42)) (a1_0 : Int) (a1_1 : Int) (a1_2 : Int) (a1_3 : Int) (a1_4 : ByteArray) (a1_5 : ByteArray) (a1_6 : Int) (a1_7 : Int) (a1_8 : Bool) : Option (Bool) := (umpirelaw11_awake.f k).bind fun t930 => (if t930 = true then ((umpireref11_Few.f k l0).bind fun t931 => (umpirelaw11_CaptureWays.j0 k l0 (!t931) a1_0 a1_1 a1_2 a1_3 a1_4 a1_5 a1_6 a1_7 a1_8)) else (umpirelaw11_CaptureWays.j0 k l0 true a1_0 a1_1 a1_2 a1_3 a1_4 a1_5 a1_6 a1_7 a1_8))
set_option maxHeartbeats 8000000 in
set_option maxRecDepth 100000 in
theorem umpirelaw11_CaptureWays.calls (k : Nat) (A0 : Option Addr) (c0 : Nat) (l0 : List (S42)) (a1_0 : Int) (a1_1 : Int) (a1_2 : Int) (a1_3 : Int) (a1_4 : ByteArray) (a1_5 : ByteArray) (a1_6 : Int) (a1_7 : Int) (a1_8 : Bool) (r : Bool) (w : World) (hG0 : Kd.C k131 w (some ⟨0, 0, none⟩) 8 formsG0) (hr0 : Kd.C k42 w A0 l0.length l0) (hc0 : l0.length ≤ c0) (h : umpirelaw11_CaptureWays.f k l0 a1_0 a1_1 a1_2 a1_3 a1_4 a1_5 a1_6 a1_7 a1_8 = some r) :
  Calls Tryd.prog 5 #[.slice A0 l0.length c0, .agg #[.int .i64 a1_0, .int .i64 a1_1, .int .i64 a1_2, .int .i64 a1_3, .string a1_4, .string a1_5, .int .i64 a1_6, .int .u32 a1_7, .bool a1_8]] w fun e w' => e = .returned (.bool r) ∧ Below w.heap.size w w' := by
 have hu25 := Tryd.underlying25
 have hu30 := Tryd.underlying30
 have HR0 := Aside0.mk hr0
 have HC0 := Aside0.mk hc0
 clear hr0 hc0
 have HRG0 := Aside0.mk hG0
 clear hG0
 have HB := Aside0.mk (Below.refl w.heap.size w)
 have H : ((umpirelaw11_awake.f k).bind fun t930 => (if t930 = true then ((umpireref11_Few.f k l0).bind fun t931 => (umpirelaw11_CaptureWays.j0 k l0 (!t931) a1_0 a1_1 a1_2 a1_3 a1_4 a1_5 a1_6 a1_7 a1_8)) else (umpirelaw11_CaptureWays.j0 k l0 true a1_0 a1_1 a1_2 a1_3 a1_4 a1_5 a1_6 a1_7 a1_8))) = some r := h
 clear h
 have HC3 := Aside0.mk H
 clear H
 go_enter Tryd.func5, Tryd.ntmps5
 go_upto_region 1 with (first | ((with_reducible refine gate_dst (N := 3) rfl ?_); (try (refine gate_guard (by rfl) ?_; dsimp only)); refine box_event ?hg (N := 3) ?hd (cs := #[.int .i64 a1_0, .int .i64 a1_1, .int .i64 a1_2, .int .i64 a1_3, .string a1_4, .string a1_5, .int .i64 a1_6, .int .u32 a1_7, .bool a1_8]) (t := 25) ?hr ?_; (case hd => rfl); (case hg => rfl); (case hr => (go_simp; done)); intro gb929 hg w4 hbox hb; have BK929 := Aside0.mk (hbox); have GW929 := Aside0.mk ((by rw [hg]; exact (below_size HB.out) : w.heap.size ≤ gb929)); have GE929 := Aside0.mk ((by rw [hg]; exact (below_size HB.out) : w.heap.size ≤ gb929)); replace HB := Aside0.mk (below_step HB.out hb); clear hb hbox hg))
 (skip)
 go_cut [16] (fun v16 wc => ∃ (kq : Nat) (x16_2 : Bool), v16 = .bool x16_2 ∧ Aside0 (umpirelaw11_CaptureWays.j0 kq l0 x16_2 a1_0 a1_1 a1_2 a1_3 a1_4 a1_5 a1_6 a1_7 a1_8 = some r) ∧ Aside0 (kq ≤ k) ∧ Aside0 (wc.heap[gb929]? = some (.cells #[.int .i64 a1_0, .int .i64 a1_1, .int .i64 a1_2, .int .i64 a1_3, .string a1_4, .string a1_5, .int .i64 a1_6, .int .u32 a1_7, .bool a1_8] 25 (0, 0))) ∧ Aside0 (Below w.heap.size w wc))
 case first =>
  have H := HC3.out
  clear HC3
  replace H := Option.bind_eq_some_iff.mp H
  obtain ⟨t930, A50, H⟩ := H
  have A5 := Aside0.mk A50
  clear A50
  by_cases c6 : t930 = true
  ·subst c6
   rw [if_pos rfl] at H
   replace H := Option.bind_eq_some_iff.mp H
   obtain ⟨t931, A70, H⟩ := H
   have A7 := Aside0.mk A70
   clear A70
   have H' := Aside0.mk H
   clear H
   go_wp2_with (first | ((with_reducible refine gate_callee (f := 9) rfl ?_); refine goesL_ (some 10) rfl rfl Tryd.func9 (by kernel_rfl) rfl #[] rfl (by (try simp only [List.map_toArray, List.map_cons, List.map_nil]); (done)) ?_; (with_reducible refine (umpirelaw11_awake.calls k  true _ ?side1 A5.out).mono ?_); (case side1 => exact (Kd.C_below HRG0.out HB.out)); rintro e w8 ⟨rfl, hb⟩; refine ⟨_, rfl, ?_⟩; replace BK929 := Aside0.mk (blk_below BK929.out hb); replace HB := Aside0.mk (below_step HB.out hb); (try clear hb)) | (go_at_call 13; (with_reducible refine (umpireref11_Few.calls k _ _ l0 t931 _ ?side1 ?side2 A7.out).mono ?_); (case side1 => exact (Kd.C_below HR0.out HB.out)); (case side2 => exact HC0.out); rintro e w9 ⟨rfl, hb⟩; replace BK929 := Aside0.mk (blk_below BK929.out hb); replace HB := Aside0.mk (below_step HB.out hb); (try clear hb)))
   go_meet
   case rel => exact ⟨_, (!t931), (by (rfl)), H', ⟨by (omega)⟩, ⟨by exact BK929.out⟩, ⟨by exact HB.out⟩⟩
  ·replace c6 := Bool.eq_false_iff.mpr c6
   subst c6
   rw [if_neg (show ¬ (false = true) by decide)] at H
   have H' := Aside0.mk H
   clear H
   go_wp2_with (first | ((with_reducible refine gate_callee (f := 9) rfl ?_); refine goesL_ (some 10) rfl rfl Tryd.func9 (by kernel_rfl) rfl #[] rfl (by (try simp only [List.map_toArray, List.map_cons, List.map_nil]); (done)) ?_; (with_reducible refine (umpirelaw11_awake.calls k  false _ ?side1 A5.out).mono ?_); (case side1 => exact (Kd.C_below HRG0.out HB.out)); rintro e w10 ⟨rfl, hb⟩; refine ⟨_, rfl, ?_⟩; replace BK929 := Aside0.mk (blk_below BK929.out hb); replace HB := Aside0.mk (below_step HB.out hb); (try clear hb)))
   go_meet
   case rel => exact ⟨_, (true), (by (rfl)), H', ⟨by (omega)⟩, ⟨by exact BK929.out⟩, ⟨by exact HB.out⟩⟩
 case rest =>
  clear HC3
  obtain ⟨kq, x16_2, rfl, HA, HJ2, BK929, HB⟩ := hcut
  cases kq with
  | zero => exact absurd HA.out (by simp [umpirelaw11_CaptureWays.j0])
  | succ kj2 =>
   have H := HA.out
   clear HA
   simp only [umpirelaw11_CaptureWays.j0] at H
   by_cases c11 : x16_2 = true
   ·subst c11
    rw [if_pos rfl] at H
    replace H := Option.bind_eq_some_iff.mp H
    obtain ⟨t932, A120, H⟩ := H
    have A12 := Aside0.mk A120
    clear A120
    obtain rfl := Option.some.inj H
    go_wp2_with (first | ((with_reducible refine gate_callee (f := 9) rfl ?_); refine goesL_ (some 17) rfl rfl Tryd.func9 (by kernel_rfl) rfl #[] rfl (by (try simp only [List.map_toArray, List.map_cons, List.map_nil]); (done)) ?_; (with_reducible refine (umpirelaw11_awake.calls kj2  t932 _ ?side1 A12.out).mono ?_); (case side1 => exact (Kd.C_below HRG0.out HB.out)); rintro e w13 ⟨rfl, hb⟩; refine ⟨_, rfl, ?_⟩; replace BK929 := Aside0.mk (blk_below BK929.out hb); replace HB := Aside0.mk (below_step HB.out hb); (try clear hb)))
    go_ret
    exact ⟨by (rfl), by exact HB.out⟩
   ·replace c11 := Bool.eq_false_iff.mpr c11
    subst c11
    rw [if_neg (show ¬ (false = true) by decide)] at H
    have H' := Aside0.mk H
    clear H
    go_wp2
    go_loopg [5] kj2 (fun kq v5 w' => ∃ (x5_2 : Int), v5 = .int .i64 x5_2 ∧ Aside0 (umpirelaw11_CaptureWays.l0 kq l0 x5_2 a1_0 a1_1 a1_2 a1_3 a1_4 a1_5 a1_6 a1_7 a1_8 = some r) ∧ Aside0 (kq ≤ kj2) ∧ Aside0 (w'.heap[gb929]? = some (.cells #[.int .i64 a1_0, .int .i64 a1_1, .int .i64 a1_2, .int .i64 a1_3, .string a1_4, .string a1_5, .int .i64 a1_6, .int .u32 a1_7, .bool a1_8] 25 (0, 0))) ∧ Aside0 (Below w.heap.size w w'))
    case atStart => exact ⟨(1), (by (rfl)), H', ⟨Nat.le_refl _⟩, ⟨by exact BK929.out⟩, ⟨by exact HB.out⟩⟩
    case round =>
     clear H'
     obtain ⟨x5_2, rfl, HA, HK2, BK929, HB⟩ := hrel
     cases gk with
     | zero => exact absurd HA.out (by simp [umpirelaw11_CaptureWays.l0])
     | succ k2 =>
      have H := HA.out
      clear HA
      simp only [umpirelaw11_CaptureWays.l0] at H
      by_cases c14 : x5_2 ≤ 2
      ·rw [if_pos c14] at H
       have c14b0 : decide (x5_2 ≤ 2) = true := decide_eq_true c14
       clear c14
       replace H := Option.bind_eq_some_iff.mp H
       obtain ⟨⟨t933, t936⟩, A150, H⟩ := H
       have A15 := Aside0.mk A150
       clear A150
       by_cases c16 : t936 = 0
       ·rw [if_pos c16] at H
        have c16b0 : (t936 == 0) = true := beq_iff_eq.mpr c16
        have c16b1 : (t936 != 0) = false := bne_eq_false_iff_eq.mpr c16
        clear c16
        replace H := Option.bind_eq_some_iff.mp H
        obtain ⟨⟨t937, t940, t941⟩, A170, H⟩ := H
        have A17 := Aside0.mk A170
        clear A170
        by_cases c18 : (!(t940 == 0) || (!(t941 == 0))) = true
        ·rw [if_pos c18] at H
         exact absurd H (by simp)
        ·rw [if_neg c18] at H
         have c18b0 : (!(t940 == 0) || (!(t941 == 0))) = false := by simpa using c18
         clear c18
         replace H := Option.bind_eq_some_iff.mp H
         obtain ⟨t943, A190, H⟩ := H
         have A19 := Aside0.mk A190
         clear A190
         by_cases c20 : t943 = true
         ·subst c20
          rw [if_pos rfl] at H
          have H' := Aside0.mk H
          clear H
          have hcz21_0 : wr.cell? ⟨gb929, 0, none⟩ = some (.int .i64 a1_0) := (blk_cell BK929.out 0).trans rfl
          have hcz21_1 : wr.cell? ⟨gb929, 1, none⟩ = some (.int .i64 a1_1) := (blk_cell BK929.out 1).trans rfl
          have hcz21_2 : wr.cell? ⟨gb929, 2, none⟩ = some (.int .i64 a1_2) := (blk_cell BK929.out 2).trans rfl
          have hcz21_3 : wr.cell? ⟨gb929, 3, none⟩ = some (.int .i64 a1_3) := (blk_cell BK929.out 3).trans rfl
          have hcz21_4 : wr.cell? ⟨gb929, 4, none⟩ = some (.string a1_4) := (blk_cell BK929.out 4).trans rfl
          have hcz21_5 : wr.cell? ⟨gb929, 5, none⟩ = some (.string a1_5) := (blk_cell BK929.out 5).trans rfl
          have hcz21_6 : wr.cell? ⟨gb929, 6, none⟩ = some (.int .i64 a1_6) := (blk_cell BK929.out 6).trans rfl
          have hcz21_7 : wr.cell? ⟨gb929, 7, none⟩ = some (.int .u32 a1_7) := (blk_cell BK929.out 7).trans rfl
          have hcz21_8 : wr.cell? ⟨gb929, 8, none⟩ = some (.bool a1_8) := (blk_cell BK929.out 8).trans rfl
          have hfz21_0 := blk_frozen BK929.out 0
          have hfz21_1 := blk_frozen BK929.out 1
          have hfz21_2 := blk_frozen BK929.out 2
          have hfz21_3 := blk_frozen BK929.out 3
          have hfz21_4 := blk_frozen BK929.out 4
          have hfz21_5 := blk_frozen BK929.out 5
          have hfz21_6 := blk_frozen BK929.out 6
          have hfz21_7 := blk_frozen BK929.out 7
          have hfz21_8 := blk_frozen BK929.out 8
          go_wp2_with (first | ((with_reducible refine gate_callee (f := 14) rfl ?_); refine goesL_ (some 26) rfl rfl Tryd.func14 (by kernel_rfl) rfl #[.slice A0 l0.length c0, .int .i64 x5_2, .agg #[.int .i64 a1_0, .int .i64 a1_1, .int .i64 a1_2, .int .i64 a1_3, .string a1_4, .string a1_5, .int .i64 a1_6, .int .u32 a1_7, .bool a1_8]] rfl (by (try simp only [List.map_toArray, List.map_cons, List.map_nil]); (rfl)) ?_; (with_reducible refine (capture_Write.calls k2 _ _ l0 x5_2 a1_0 a1_1 a1_2 a1_3 a1_4 a1_5 a1_6 a1_7 a1_8 t933 t936 _ ?side1 ?side2 ?side3 A15.out).mono ?_); (case side1 => exact (Kd.C_below HRG0.out HB.out)); (case side2 => exact (Kd.C_below HR0.out HB.out)); (case side3 => exact HC0.out); rintro e w22 ⟨v934, rfl, ho0, hb⟩; refine ⟨_, rfl, ?_⟩; have HO935 := Aside0.mk (Kd.R_lower ho0 (below_size HB.out)); replace BK929 := Aside0.mk (blk_below BK929.out hb); replace HB := Aside0.mk (below_step HB.out hb); (try clear hb); (try clear ho0); have hcz23_0 : w22.cell? ⟨gb929, 0, none⟩ = some (.int .i64 a1_0) := (blk_cell BK929.out 0).trans rfl; have hcz23_1 : w22.cell? ⟨gb929, 1, none⟩ = some (.int .i64 a1_1) := (blk_cell BK929.out 1).trans rfl; have hcz23_2 : w22.cell? ⟨gb929, 2, none⟩ = some (.int .i64 a1_2) := (blk_cell BK929.out 2).trans rfl; have hcz23_3 : w22.cell? ⟨gb929, 3, none⟩ = some (.int .i64 a1_3) := (blk_cell BK929.out 3).trans rfl; have hcz23_4 : w22.cell? ⟨gb929, 4, none⟩ = some (.string a1_4) := (blk_cell BK929.out 4).trans rfl; have hcz23_5 : w22.cell? ⟨gb929, 5, none⟩ = some (.string a1_5) := (blk_cell BK929.out 5).trans rfl; have hcz23_6 : w22.cell? ⟨gb929, 6, none⟩ = some (.int .i64 a1_6) := (blk_cell BK929.out 6).trans rfl; have hcz23_7 : w22.cell? ⟨gb929, 7, none⟩ = some (.int .u32 a1_7) := (blk_cell BK929.out 7).trans rfl; have hcz23_8 : w22.cell? ⟨gb929, 8, none⟩ = some (.bool a1_8) := (blk_cell BK929.out 8).trans rfl; have hfz23_0 := blk_frozen BK929.out 0; have hfz23_1 := blk_frozen BK929.out 1; have hfz23_2 := blk_frozen BK929.out 2; have hfz23_3 := blk_frozen BK929.out 3; have hfz23_4 := blk_frozen BK929.out 4; have hfz23_5 := blk_frozen BK929.out 5; have hfz23_6 := blk_frozen BK929.out 6; have hfz23_7 := blk_frozen BK929.out 7; have hfz23_8 := blk_frozen BK929.out 8; obtain ⟨Ao24, co24, eo24⟩ := Kd.R_slice HO935.out; subst eo24) | ((with_reducible refine gate_callee (f := 10) rfl ?_); refine goesL_ (some 42) rfl rfl Tryd.func10 (by kernel_rfl) rfl #[.slice Ao24 t933.length co24, .int .i64 x5_2, .agg #[.int .i64 a1_0, .int .i64 a1_1, .int .i64 a1_2, .int .i64 a1_3, .string a1_4, .string a1_5, .int .i64 a1_6, .int .u32 a1_7, .bool a1_8]] rfl (by (try simp only [List.map_toArray, List.map_cons, List.map_nil]); (rfl)) ?_; (with_reducible refine (capture_Read.calls k2 _ _ t933 x5_2 a1_0 a1_1 a1_2 a1_3 a1_4 a1_5 a1_6 a1_7 a1_8 t937 t940 t941 _ ?side1 ?side2 ?side3 A17.out).mono ?_); (case side1 => exact (Kd.C_below HRG0.out HB.out)); (case side2 => exact (Kd.R_reads' HO935.out).2.2); (case side3 => exact (Kd.R_reads' HO935.out).2.1); rintro e w25 ⟨v938, rfl, ho0, hb⟩; refine ⟨_, rfl, ?_⟩; have HO939 := Aside0.mk (Kd.S_lower (Kd.S_new' ho0 (Kd.R_lt HO935.out)) (below_size HB.out)); replace HO935 := Aside0.mk (Kd.R_below HO935.out hb); replace BK929 := Aside0.mk (blk_below BK929.out hb); replace HB := Aside0.mk (below_step HB.out hb); (try clear hb); (try clear ho0)) | ((with_reducible refine gate_dst (N := 9) rfl ?_); (try (refine gate_guard (by rfl) ?_; dsimp only)); refine box_event ?hg (N := 9) ?hd (cs := #[.int .i64 0, .int .i64 0]) (t := 30) ?hr ?_; (case hd => rfl); (case hg => rfl); (case hr => (go_simp; done)); intro gb942 hg w26 hbox hb; have BK942 := Aside0.mk (hbox); have GW942 := Aside0.mk ((by rw [hg]; exact (below_size HB.out) : w.heap.size ≤ gb942)); have GE942 := Aside0.mk ((by rw [hg]; exact (below_size HB.out) : w.heap.size ≤ gb942)); have NB929_942 := Aside0.mk ((by rw [hg]; exact Nat.ne_of_lt (blk_lt BK929.out) : gb929 ≠ gb942)); have NB942_929 := Aside0.mk ((by rw [hg]; exact Nat.ne_of_gt (blk_lt BK929.out) : gb942 ≠ gb929)); replace HO935 := Aside0.mk (Kd.R_below HO935.out hb); replace HO939 := Aside0.mk (Kd.S_below HO939.out hb); replace BK929 := Aside0.mk (blk_below BK929.out hb); replace HB := Aside0.mk (below_step HB.out hb); clear hb hbox hg; have hnb27 := NB942_929.out; have hnc27 := NB929_942.out; have hcz28_0 : w26.cell? ⟨gb942, 0, none⟩ = some (.int .i64 0) := (blk_cell BK942.out 0).trans rfl; have hcz28_1 : w26.cell? ⟨gb942, 1, none⟩ = some (.int .i64 0) := (blk_cell BK942.out 1).trans rfl; have hfz28_0 := blk_frozen BK942.out 0; have hfz28_1 := blk_frozen BK942.out 1; obtain ⟨Ao29, co29, eo29⟩ := Kd.S_slice HO939.out; subst eo29) | (go_at_call 12; (with_reducible refine (umpireref11_Same.calls k2 _ _ t937 _ _ l0 true _ ?side1 ?side2 ?side3 ?side4 A19.out).mono ?_); (case side1 => refine (Kd.S_reads' (e := 42) (base := w.heap.size) (ok := fun k_ => (True ∧ some k_ ≠ (.slice Ao24 t933.length co24 : Value).ownBlock)) (n := t937.length) (c := co29) ?_).2.2; exact (by exact (Kd.S_mono (Kd.S_far (p := ⟨gb942, 1, none⟩) (Kd.S_far (p := ⟨gb942, 0, none⟩) (Kd.S_types HO939.out BK942.out (by decide)) (fun _ hk => hk.2) (.int .i64 t940)) (fun _ hk => hk.2) (.int .i64 t941)) (fun _ h_ => h_.1)))); (case side2 => exact (Kd.S_reads' HO939.out).2.1); (case side3 => exact Kd.C_below HR0.out (by repeat (with_reducible first | exact HB.out | refine below_set ?_ GE942.out))); (case side4 => exact HC0.out); rintro e w' ⟨rfl, ⟨nd, rfl⟩⟩))
          go_roundg k2
          case measure => have := HJ2.out; have := HK2.out; omega
          case rel => exact ⟨(wrap64 (x5_2 + 1)), (by (rfl)), H', ⟨by have := HJ2.out; have := HK2.out; omega⟩, ⟨by (with_reducible repeat (refine blk_drewN ?_ _)); refine blk_far ?_ NB929_942.out _; refine blk_far ?_ NB929_942.out _; exact BK929.out⟩, ⟨by repeat (with_reducible first | exact HB.out | apply pw_below_drewN | refine below_set ?_ GE942.out)⟩⟩
         ·replace c20 := Bool.eq_false_iff.mpr c20
          subst c20
          rw [if_neg (show ¬ (false = true) by decide)] at H
          exact absurd H (by simp)
       ·rw [if_neg c16] at H
        have c16b0 : (t936 == 0) = false := beq_eq_false_iff_ne.mpr c16
        have c16b1 : (t936 != 0) = true := bne_iff_ne.mpr c16
        by_cases c30 : t936 = 1
        ·rw [if_pos c30] at H
         have c30b0 : (t936 == 1) = true := beq_iff_eq.mpr c30
         have c30b1 : (t936 != 1) = false := bne_eq_false_iff_eq.mpr c30
         clear c30
         obtain rfl := Option.some.inj H
         have hcz31_0 : wr.cell? ⟨gb929, 0, none⟩ = some (.int .i64 a1_0) := (blk_cell BK929.out 0).trans rfl
         have hcz31_1 : wr.cell? ⟨gb929, 1, none⟩ = some (.int .i64 a1_1) := (blk_cell BK929.out 1).trans rfl
         have hcz31_2 : wr.cell? ⟨gb929, 2, none⟩ = some (.int .i64 a1_2) := (blk_cell BK929.out 2).trans rfl
         have hcz31_3 : wr.cell? ⟨gb929, 3, none⟩ = some (.int .i64 a1_3) := (blk_cell BK929.out 3).trans rfl
         have hcz31_4 : wr.cell? ⟨gb929, 4, none⟩ = some (.string a1_4) := (blk_cell BK929.out 4).trans rfl
         have hcz31_5 : wr.cell? ⟨gb929, 5, none⟩ = some (.string a1_5) := (blk_cell BK929.out 5).trans rfl
         have hcz31_6 : wr.cell? ⟨gb929, 6, none⟩ = some (.int .i64 a1_6) := (blk_cell BK929.out 6).trans rfl
         have hcz31_7 : wr.cell? ⟨gb929, 7, none⟩ = some (.int .u32 a1_7) := (blk_cell BK929.out 7).trans rfl
         have hcz31_8 : wr.cell? ⟨gb929, 8, none⟩ = some (.bool a1_8) := (blk_cell BK929.out 8).trans rfl
         have hfz31_0 := blk_frozen BK929.out 0
         have hfz31_1 := blk_frozen BK929.out 1
         have hfz31_2 := blk_frozen BK929.out 2
         have hfz31_3 := blk_frozen BK929.out 3
         have hfz31_4 := blk_frozen BK929.out 4
         have hfz31_5 := blk_frozen BK929.out 5
         have hfz31_6 := blk_frozen BK929.out 6
         have hfz31_7 := blk_frozen BK929.out 7
         have hfz31_8 := blk_frozen BK929.out 8
         go_wp2_with (first | ((with_reducible refine gate_callee (f := 14) rfl ?_); refine goesL_ (some 26) rfl rfl Tryd.func14 (by kernel_rfl) rfl #[.slice A0 l0.length c0, .int .i64 x5_2, .agg #[.int .i64 a1_0, .int .i64 a1_1, .int .i64 a1_2, .int .i64 a1_3, .string a1_4, .string a1_5, .int .i64 a1_6, .int .u32 a1_7, .bool a1_8]] rfl (by (try simp only [List.map_toArray, List.map_cons, List.map_nil]); (rfl)) ?_; (with_reducible refine (capture_Write.calls k2 _ _ l0 x5_2 a1_0 a1_1 a1_2 a1_3 a1_4 a1_5 a1_6 a1_7 a1_8 t933 t936 _ ?side1 ?side2 ?side3 A15.out).mono ?_); (case side1 => exact (Kd.C_below HRG0.out HB.out)); (case side2 => exact (Kd.C_below HR0.out HB.out)); (case side3 => exact HC0.out); rintro e w32 ⟨v934, rfl, ho0, hb⟩; refine ⟨_, rfl, ?_⟩; have HO935 := Aside0.mk (Kd.R_lower ho0 (below_size HB.out)); replace BK929 := Aside0.mk (blk_below BK929.out hb); replace HB := Aside0.mk (below_step HB.out hb); (try clear hb); (try clear ho0); obtain ⟨Ao33, co33, eo33⟩ := Kd.R_slice HO935.out; subst eo33))
         go_ret
         exact ⟨by (rfl), by exact HB.out⟩
        ·rw [if_neg c30] at H
         exact absurd H (by simp)
      ·rw [if_neg c14] at H
       have c14b0 : decide (x5_2 ≤ 2) = false := decide_eq_false c14
       clear c14
       obtain rfl := Option.some.inj H
       go_wp2
       go_ret
       exact ⟨by (rfl), by exact HB.out⟩

end Go.Proofs.YtgnonglkibhnhaaDoor.Print
