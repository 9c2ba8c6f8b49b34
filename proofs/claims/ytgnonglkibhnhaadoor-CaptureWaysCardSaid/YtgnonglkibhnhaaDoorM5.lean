-- laid together by this session's own program (wip/tools/merge.py) of texts that its program laid
import Derived.Test.YtgnonglkibhnhaaDoor0
import Derived.Test.YtgnonglkibhnhaaDoorM1
import Derived.Test.YtgnonglkibhnhaaDoorF23
import Derived.Test.YtgnonglkibhnhaaDoorF24
import Derived.Test.YtgnonglkibhnhaaDoorM4
namespace Go.Proofs.YtgnonglkibhnhaaDoor.Print
open Go.RowKit Go.Proofs.YtgnonglkibhnhaaDoorW.PrintWords Go.Proofs.YtgnonglkibhnhaaDoorW.PrintLast Go.Proofs.YtgnonglkibhnhaaDoorW.PrintMore
attribute [local go_sem] max2_int min2_int max_two min_two max_three min_three max_four min_four   -- for this text's walks alone
set_option linter.unusedVariables false
set_option linter.unusedSimpArgs false
set_option maxHeartbeats 16000000
set_option maxRecDepth 100000
section
attribute [local go_sem high] capture_as65 capture_as65n capture_as65z capture_as67 capture_as67n capture_as67z
def capture_Read.f (k : Nat) (l0 : List Int) (a1 : Int) (a2_0 a2_1 a2_2 a2_3 : Int) (a2_4 a2_5 : ByteArray) (a2_6 a2_7 : Int) (a2_8 : Bool) : Option ((List (S42)) × Int × Int) := if a1 = 1 then capture_records_read.f k l0 a2_6 else if a1 = 2 then capture_notes_read.f k l0 a2_7 a2_8 else some ([], 0, 7)
theorem capture_Read.calls (k : Nat) (A0 : Option Addr) (c0 : Nat) (l0 : List Int) (a1 : Int) (a2_0 a2_1 a2_2 a2_3 : Int) (a2_4 a2_5 : ByteArray) (a2_6 a2_7 : Int) (a2_8 : Bool) (r1 : List (S42)) (r2 r3 : Int) (w : World) (hG0 : Kd.C k131 w (some ⟨0, 0, none⟩) 8 formsG0) (hr0 : Kd.C (Kd.int .u8) w A0 l0.length l0) (hc0 : l0.length ≤ c0) (h : capture_Read.f k l0 a1 a2_0 a2_1 a2_2 a2_3 a2_4 a2_5 a2_6 a2_7 a2_8 = some (r1, r2, r3)) :
  Calls Tryd.prog 10 #[.slice A0 l0.length c0, .int .i64 a1, .agg #[.int .i64 a2_0, .int .i64 a2_1, .int .i64 a2_2, .int .i64 a2_3, .string a2_4, .string a2_5, .int .i64 a2_6, .int .u32 a2_7, .bool a2_8]] w fun e w' => ∃ v0_ : Value, e = .returned (.tuple #[v0_, .agg #[.int .i64 r2, .int .i64 r3]]) ∧ Kd.S k42 42 w' w.heap.size (fun _ => True) v0_ r1 ∧ Below w.heap.size w w' := by
 have hu30 := Tryd.underlying30
 have hu25 := Tryd.underlying25
 have hu65 := Tryd.underlying65
 have hu67 := Tryd.underlying67
 have HG0 := Aside0.mk hG0
 have HR0 := Aside0.mk hr0
 have HC0 := Aside0.mk hc0
 have HB := Aside0.mk (Below.refl w.heap.size w)
 have HH := Aside0.mk h
 clear hG0 hr0 hc0 h
 by_cases e1 : a1 = 1
 ·subst e1
  have h := HH.out
  rw [capture_Read.f, if_pos rfl] at h
  have HT := Aside0.mk h
  clear HH h
  go_enter Tryd.func10, Tryd.ntmps10
  go_wp2_with (first | ((with_reducible refine gate_dst (N := 5) rfl ?_); refine box_event ?hg (N := 5) ?hd (cs := #[.int .i64 a2_0, .int .i64 a2_1, .int .i64 a2_2, .int .i64 a2_3, .string a2_4, .string a2_5, .int .i64 a2_6, .int .u32 a2_7, .bool a2_8]) (t := 25) ?hr ?_; (case hd => rfl); (case hg => rfl); (case hr => (go_simp; done)); intro g5 hg w5 hbox hb; have HB5 := Aside0.mk (below_step HB.out hb); have BK5 := Aside0.mk hbox; clear hg hbox hb) | ((with_reducible refine gate_dst (N := 7) rfl ?_); refine box_event ?hg (N := 7) ?hd (cs := #[.int .i64 0, .int .i64 0]) (t := 30) ?hr ?_; (case hd => rfl); (case hg => rfl); (case hr => (go_simp; done)); intro g7 hg w7 hbox hb; have HB7 := Aside0.mk (below_step HB5.out hb); have BK5b := Aside0.mk (blk_below BK5.out hb); have BK7 := Aside0.mk hbox; have GE7 : Aside0 (w.heap.size ≤ g7) := ⟨by rw [hg]; exact HB5.out.size⟩; clear hg hbox hb) | (go_at_call 22; refine (capture_formOf.calls 1 _).mono ?_; rintro e w8 ⟨he, hb⟩; rw [show capture_formOf.form (capture_formOf.at 1) = .iface 65 (.agg #[]) from rfl] at he; subst he; have HB8 := Aside0.mk (below_step HB7.out hb); have BK5c := Aside0.mk (blk_below BK5b.out hb); have BK7b := Aside0.mk (blk_below BK7.out hb);  clear hb) | ((with_reducible refine gate_dst (N := 8) rfl ?_); refine box_event ?hg (N := 8) ?hd (cs := #[]) (t := 65) ?hr ?_; (case hd => rfl); (case hg => rfl); (case hr => (go_simp; done)); intro g9 hg w9 hbox hb; have HB9 := Aside0.mk (below_step HB8.out hb); have BK5d := Aside0.mk (blk_below BK5c.out hb); have BK7d := Aside0.mk (blk_below BK7b.out hb); have hcz9 := hbox; have hc5_0 : w9.cell? ⟨g5, 0, none⟩ = some (.int .i64 a2_0) := (blk_cell BK5d.out 0).trans rfl; have hc5_1 : w9.cell? ⟨g5, 1, none⟩ = some (.int .i64 a2_1) := (blk_cell BK5d.out 1).trans rfl; have hc5_2 : w9.cell? ⟨g5, 2, none⟩ = some (.int .i64 a2_2) := (blk_cell BK5d.out 2).trans rfl; have hc5_3 : w9.cell? ⟨g5, 3, none⟩ = some (.int .i64 a2_3) := (blk_cell BK5d.out 3).trans rfl; have hc5_4 : w9.cell? ⟨g5, 4, none⟩ = some (.string a2_4) := (blk_cell BK5d.out 4).trans rfl; have hc5_5 : w9.cell? ⟨g5, 5, none⟩ = some (.string a2_5) := (blk_cell BK5d.out 5).trans rfl; have hc5_6 : w9.cell? ⟨g5, 6, none⟩ = some (.int .i64 a2_6) := (blk_cell BK5d.out 6).trans rfl; have hc5_7 : w9.cell? ⟨g5, 7, none⟩ = some (.int .u32 a2_7) := (blk_cell BK5d.out 7).trans rfl; have hc5_8 : w9.cell? ⟨g5, 8, none⟩ = some (.bool a2_8) := (blk_cell BK5d.out 8).trans rfl; have hl_9 : (w9.heap[g9]?) = some (.cells #[] 65 (0, 0)) := hbox; clear hg hbox hb) | (go_at_call 23; refine (capture_records_read.calls k A0 c0 l0 a2_0 a2_1 a2_2 a2_3 a2_4 a2_5 a2_6 a2_7 a2_8 r1 r2 r3 _ (Kd.C_below HR0.out HB9.out) HC0.out HT.out).mono ?_; rintro e w10 ⟨v0, rfl, ho, hb⟩; have HO := Aside0.mk ho; have HLO := Aside0.mk HB9.out.size; have HB10 := Aside0.mk (below_step HB9.out hb); have BK7c := Aside0.mk (blk_below BK7d.out hb); clear ho hb; have hs7_0 : w10.cell? ⟨g7, 0, none⟩ = some (.int .i64 0) := (blk_cell BK7c.out 0).trans rfl; have hfs7_0 := blk_frozen BK7c.out 0; have hs7_1 : w10.cell? ⟨g7, 1, none⟩ = some (.int .i64 0) := (blk_cell BK7c.out 1).trans rfl; have hfs7_1 := blk_frozen BK7c.out 1))
  refine bodyPost_ret (results_tc rfl _ _ g7 30 #[.int .i64 r2, .int .i64 r3] (0, 0) _ rfl (by refine blk_put (cs := #[.int .i64 r2, .int .i64 0]) ?_ 1 _ rfl; refine blk_put (cs := #[.int .i64 0, .int .i64 0]) ?_ 0 _ rfl; exact BK7c.out) hu30 rfl (by kernel_rfl)) rfl ?_
  exact ⟨_, rfl, Kd.S_lower (Kd.S_set (Kd.S_set HO.out BK7c.out (by decide) 0 _) (blk_set BK7c.out 0 _) (by decide) 1 _) HLO.out, below_set (below_set HB10.out GE7.out) GE7.out⟩
 ·by_cases e2 : a1 = 2
  ·subst e2
   have h := HH.out
   rw [capture_Read.f, if_neg e1, if_pos rfl] at h
   have HT := Aside0.mk h
   clear HH h
   go_enter Tryd.func10, Tryd.ntmps10
   go_wp2_with (first | ((with_reducible refine gate_dst (N := 5) rfl ?_); refine box_event ?hg (N := 5) ?hd (cs := #[.int .i64 a2_0, .int .i64 a2_1, .int .i64 a2_2, .int .i64 a2_3, .string a2_4, .string a2_5, .int .i64 a2_6, .int .u32 a2_7, .bool a2_8]) (t := 25) ?hr ?_; (case hd => rfl); (case hg => rfl); (case hr => (go_simp; done)); intro g5 hg w5 hbox hb; have HB5 := Aside0.mk (below_step HB.out hb); have BK5 := Aside0.mk hbox; clear hg hbox hb) | ((with_reducible refine gate_dst (N := 7) rfl ?_); refine box_event ?hg (N := 7) ?hd (cs := #[.int .i64 0, .int .i64 0]) (t := 30) ?hr ?_; (case hd => rfl); (case hg => rfl); (case hr => (go_simp; done)); intro g7 hg w7 hbox hb; have HB7 := Aside0.mk (below_step HB5.out hb); have BK5b := Aside0.mk (blk_below BK5.out hb); have BK7 := Aside0.mk hbox; have GE7 : Aside0 (w.heap.size ≤ g7) := ⟨by rw [hg]; exact HB5.out.size⟩; clear hg hbox hb) | (go_at_call 22; refine (capture_formOf.calls 2 _).mono ?_; rintro e w8 ⟨he, hb⟩; rw [show capture_formOf.form (capture_formOf.at 2) = .iface 67 (.agg #[]) from rfl] at he; subst he; have HB8 := Aside0.mk (below_step HB7.out hb); have BK5c := Aside0.mk (blk_below BK5b.out hb); have BK7b := Aside0.mk (blk_below BK7.out hb);  clear hb) | ((with_reducible refine gate_dst (N := 9) rfl ?_); refine box_event ?hg (N := 9) ?hd (cs := #[]) (t := 67) ?hr ?_; (case hd => rfl); (case hg => rfl); (case hr => (go_simp; done)); intro g9 hg w9 hbox hb; have HB9 := Aside0.mk (below_step HB8.out hb); have BK5d := Aside0.mk (blk_below BK5c.out hb); have BK7d := Aside0.mk (blk_below BK7b.out hb); have hcz9 := hbox; have hc5_0 : w9.cell? ⟨g5, 0, none⟩ = some (.int .i64 a2_0) := (blk_cell BK5d.out 0).trans rfl; have hc5_1 : w9.cell? ⟨g5, 1, none⟩ = some (.int .i64 a2_1) := (blk_cell BK5d.out 1).trans rfl; have hc5_2 : w9.cell? ⟨g5, 2, none⟩ = some (.int .i64 a2_2) := (blk_cell BK5d.out 2).trans rfl; have hc5_3 : w9.cell? ⟨g5, 3, none⟩ = some (.int .i64 a2_3) := (blk_cell BK5d.out 3).trans rfl; have hc5_4 : w9.cell? ⟨g5, 4, none⟩ = some (.string a2_4) := (blk_cell BK5d.out 4).trans rfl; have hc5_5 : w9.cell? ⟨g5, 5, none⟩ = some (.string a2_5) := (blk_cell BK5d.out 5).trans rfl; have hc5_6 : w9.cell? ⟨g5, 6, none⟩ = some (.int .i64 a2_6) := (blk_cell BK5d.out 6).trans rfl; have hc5_7 : w9.cell? ⟨g5, 7, none⟩ = some (.int .u32 a2_7) := (blk_cell BK5d.out 7).trans rfl; have hc5_8 : w9.cell? ⟨g5, 8, none⟩ = some (.bool a2_8) := (blk_cell BK5d.out 8).trans rfl; have hl_9 : (w9.heap[g9]?) = some (.cells #[] 67 (0, 0)) := hbox; clear hg hbox hb) | (go_at_call 24; refine (capture_notes_read.calls k A0 c0 l0 a2_0 a2_1 a2_2 a2_3 a2_4 a2_5 a2_6 a2_7 a2_8 r1 r2 r3 _ (Kd.C_below HG0.out HB9.out) (Kd.C_below HR0.out HB9.out) HC0.out HT.out).mono ?_; rintro e w10 ⟨v0, rfl, ho, hb⟩; have HO := Aside0.mk ho; have HLO := Aside0.mk HB9.out.size; have HB10 := Aside0.mk (below_step HB9.out hb); have BK7c := Aside0.mk (blk_below BK7d.out hb); clear ho hb; have hs7_0 : w10.cell? ⟨g7, 0, none⟩ = some (.int .i64 0) := (blk_cell BK7c.out 0).trans rfl; have hfs7_0 := blk_frozen BK7c.out 0; have hs7_1 : w10.cell? ⟨g7, 1, none⟩ = some (.int .i64 0) := (blk_cell BK7c.out 1).trans rfl; have hfs7_1 := blk_frozen BK7c.out 1))
   refine bodyPost_ret (results_tc rfl _ _ g7 30 #[.int .i64 r2, .int .i64 r3] (0, 0) _ rfl (by refine blk_put (cs := #[.int .i64 r2, .int .i64 0]) ?_ 1 _ rfl; refine blk_put (cs := #[.int .i64 0, .int .i64 0]) ?_ 0 _ rfl; exact BK7c.out) hu30 rfl (by kernel_rfl)) rfl ?_
   exact ⟨_, rfl, Kd.S_lower (Kd.S_set (Kd.S_set HO.out BK7c.out (by decide) 0 _) (blk_set BK7c.out 0 _) (by decide) 1 _) HLO.out, below_set (below_set HB10.out GE7.out) GE7.out⟩
  ·have h := HH.out
   rw [capture_Read.f, if_neg e1, if_neg e2] at h
   simp only [Option.some.injEq, Prod.mk.injEq] at h
   obtain ⟨rfl, rfl, rfl⟩ := h
   have hat : capture_formOf.form (capture_formOf.at a1) = .nilIface := by unfold capture_formOf.at; rw [if_neg e1, if_neg e2]; rfl
   have HAT := Aside0.mk hat
   clear HH hat
   go_enter Tryd.func10, Tryd.ntmps10
   go_wp2_with (first | ((with_reducible refine gate_dst (N := 5) rfl ?_); refine box_event ?hg (N := 5) ?hd (cs := #[.int .i64 a2_0, .int .i64 a2_1, .int .i64 a2_2, .int .i64 a2_3, .string a2_4, .string a2_5, .int .i64 a2_6, .int .u32 a2_7, .bool a2_8]) (t := 25) ?hr ?_; (case hd => rfl); (case hg => rfl); (case hr => (go_simp; done)); intro g5 hg w5 hbox hb; have HB5 := Aside0.mk (below_step HB.out hb); have BK5 := Aside0.mk hbox; clear hg hbox hb) | ((with_reducible refine gate_dst (N := 7) rfl ?_); refine box_event ?hg (N := 7) ?hd (cs := #[.int .i64 0, .int .i64 0]) (t := 30) ?hr ?_; (case hd => rfl); (case hg => rfl); (case hr => (go_simp; done)); intro g7 hg w7 hbox hb; have HB7 := Aside0.mk (below_step HB5.out hb); have BK5b := Aside0.mk (blk_below BK5.out hb); have BK7 := Aside0.mk hbox; have GE7 : Aside0 (w.heap.size ≤ g7) := ⟨by rw [hg]; exact HB5.out.size⟩; clear hg hbox hb) | (go_at_call 22; refine (capture_formOf.calls a1 _).mono ?_; rintro e w8 ⟨he, hb⟩; rw [HAT.out] at he; subst he; have HB8 := Aside0.mk (below_step HB7.out hb); have BK5c := Aside0.mk (blk_below BK5b.out hb); have BK7b := Aside0.mk (blk_below BK7.out hb); have hs7_0 : w8.cell? ⟨g7, 0, none⟩ = some (.int .i64 0) := (blk_cell BK7b.out 0).trans rfl; have hfs7_0 := blk_frozen BK7b.out 0; have hs7_1 : w8.cell? ⟨g7, 1, none⟩ = some (.int .i64 0) := (blk_cell BK7b.out 1).trans rfl; have hfs7_1 := blk_frozen BK7b.out 1; clear hb))
   refine bodyPost_ret (results_tc rfl _ _ g7 30 #[.int .i64 0, .int .i64 7] (0, 0) _ rfl (by refine blk_put (cs := #[.int .i64 0, .int .i64 0]) ?_ 1 _ rfl; refine blk_put (cs := #[.int .i64 0, .int .i64 0]) ?_ 0 _ rfl; exact BK7b.out) hu30 rfl (by kernel_rfl)) rfl ?_
   exact ⟨_, rfl, Kd.S_nil _ _ _ _ _, below_set (below_set HB8.out GE7.out) GE7.out⟩
end
def pcap_laid.l0 : Nat → Bool → Int → List Int → List Int → Int → Int → Option (List Int)
 | 0, _, _, _, _, _, _ => none
 | k + 1, x0, x1, x7, x12, x13, x14 => if x14 < x13 then (if 0 ≤ x14 then (if x14 < (x12.length : Int) then ((octet_Put.f k (IntKind.u64.wrap (rd x12 x14)) x1 x0).bind fun bt333 => (if x7.length + bt333.1.length < 140737488355328 then (pcap_laid.l0 k x0 x1 (x7 ++ bt333.1) x12 x13 (wrap64 (x14 + 1))) else (none))) else (none)) else (none)) else (some x7)
def pcap_laid.f (k : Nat) (a0 : Bool) (a1 : Int) (l2 : List Int) : Option (List Int) := pcap_laid.l0 k a0 a1 ([] : List Int) l2 (l2.length : Int) 0
theorem pcap_laid.calls (k : Nat) (a0 : Bool) (a1 : Int) (A2 : Option Addr) (c2 : Nat) (l2 : List Int) (r : List Int) (w : World) (hr2 : Kd.C (Kd.int .u32) w A2 l2.length l2) (hc2 : l2.length ≤ c2) (h : pcap_laid.f k a0 a1 l2 = some r) :
  Calls Tryd.prog 74 #[.bool a0, .int .i64 a1, .slice A2 l2.length c2] w fun e w' => ∃ v0_ : Value, e = .returned (v0_) ∧ Kd.R (Kd.int .u8) 5 w' w.heap.size (fun _ => True) v0_ r ∧ Below w.heap.size w w' := by
 have HR2 := Aside0.mk hr2
 have HC2 := Aside0.mk hc2
 clear hr2 hc2
 have HB := Aside0.mk (Below.refl w.heap.size w)
 have H : (pcap_laid.l0 k a0 a1 ([] : List Int) l2 (l2.length : Int) 0) = some r := h
 clear h
 have H' := Aside0.mk H
 clear H
 go_enter Tryd.func74, Tryd.ntmps74
 go_wp2
 go_loopg [7, 14] k (fun kq v7 v14 w' => ∃ (x7_1 : List Int) (x14_1 : Int), v14 = .int .i64 x14_1 ∧ Aside0 (pcap_laid.l0 kq a0 a1 x7_1 l2 (l2.length : Int) x14_1 = some r) ∧ Aside0 (kq ≤ k) ∧ Aside0 (Kd.R (Kd.int .u8) 5 w' w.heap.size (fun _ => True) v7 x7_1) ∧ Aside0 (Below w.heap.size w w'))
 case atStart => exact ⟨([] : List Int), (0), (by (rfl)), H', ⟨Nat.le_refl _⟩, ⟨by (exact Kd.R_nil _ _ _ _ _)⟩, ⟨by exact HB.out⟩⟩
 case round =>
  clear H'
  obtain ⟨x7_1, x14_1, rfl, HA, HK1, HO_7, HB⟩ := hrel
  cases gk with
  | zero => exact absurd HA.out (by simp [pcap_laid.l0])
  | succ k1 =>
   have H := HA.out
   clear HA
   simp only [pcap_laid.l0] at H
   by_cases c4 : x14_1 < (l2.length : Int)
   ·rw [if_pos c4] at H
    have c4b0 : decide (x14_1 < (l2.length : Int)) = true := decide_eq_true c4
    clear c4
    by_cases c5 : 0 ≤ x14_1
    ·rw [if_pos c5] at H
     have c5b0 : decide (0 ≤ x14_1) = true := decide_eq_true c5
     clear c5
     by_cases c6 : x14_1 < (l2.length : Int)
     ·rw [if_pos c6] at H
      have c6b0 : decide (x14_1 < (l2.length : Int)) = true := decide_eq_true c6
      clear c6
      replace H := Option.bind_eq_some_iff.mp H
      obtain ⟨⟨t333, t334⟩, A70, H⟩ := H
      have A7 := Aside0.mk A70
      clear A70
      by_cases c8 : x7_1.length + t333.length < 140737488355328
      ·rw [if_pos c8] at H
       have LMc8 := Aside0.mk c8
       clear c8
       obtain ⟨y337, hy337⟩ : ∃ y_ : List Int, y_ = (x7_1 ++ t333) := ⟨_, rfl⟩
       replace H : (pcap_laid.l0 k1 a0 a1 y337 l2 (l2.length : Int) (wrap64 (x14_1 + 1))) = some r := by (rw [hy337]; with_reducible exact H)
       have Ny337 := Aside0.mk hy337
       clear hy337
       have H' := Aside0.mk H
       clear H
       have p332 : 0 ≤ (x14_1 : Int) := of_decide_eq_true (by (with_reducible assumption))
       have q332 : x14_1 < (l2.length : Int) := of_decide_eq_true (by (with_reducible assumption))
       obtain ⟨ad332, e332, hx332_0⟩ := Kd.at_int HR2.out x14_1 p332 q332
       cases e332
       replace hx332_0 := (HB.out.cell (World.block_lt_of_cell? w _ hx332_0)).trans hx332_0
       replace p332 := eq_true p332
       replace q332 := eq_true q332
       go_wp2_with (first | ((with_reducible refine gate_callee (f := 72) rfl ?_); refine goesL_ (some 23) rfl rfl Tryd.func72 (by kernel_rfl) rfl #[.int .u64 (IntKind.u64.wrap (rd l2 x14_1)), .int .i64 a1, .bool a0] rfl (by (try simp only [List.map_toArray, List.map_cons, List.map_nil]); (rfl)) ?_; (with_reducible refine (octet_Put.calls k1 (IntKind.u64.wrap (rd l2 x14_1)) a1 a0 t333 t334 _ A7.out).mono ?_); rintro e w9 ⟨v335, rfl, ho0, hb⟩; refine ⟨_, rfl, ?_⟩; have HO336 := Aside0.mk (Kd.R_lower (Kd.R_new' ho0 (Kd.R_lt HO_7.out)) (below_size HB.out)); replace HO_7 := Aside0.mk (Kd.R_elder' HO_7.out (by (exact Kd.R_base ho0)) hb); replace HB := Aside0.mk (below_step HB.out hb); (try clear hb); (try clear ho0); obtain ⟨Ao11, co11, eo11⟩ := Kd.R_slice HO336.out; subst eo11) | ((with_reducible refine gate_builtin (b := .append) (xs := #[.tmp 26, .tmp 27]) rfl ?_); at_builtin; refine Kd.R_append_rows (Kd.int .u8) (w0 := w) w.heap.size rfl (.tmp 26) (.tmp 27) 22 5 (.int .u8 0) 1 rfl Tryd.underlying22 info5 rfl (by decide) (by omega) u7 x7_1 t333 _ _ _ (fun k_ => some k_ ≠ (.slice Ao11 t333.length co11 : Value).ownBlock) (fun _ => False) rfl rfl ?aO ?aR (fun _ _ h => h) (fun _ h => h.elim) ?aF ?aB ?aS ?aL ?_; (case aR => exact (Kd.R_reads' HO336.out).2.2); (case aB => exact HB.out); (case aF => exact (fun k_ hk => Kd.fresh' (Kd.R_lt HO336.out) k_ hk)); (case aO => exact (by exact Kd.R_mono HO_7.out (fun _ hk => hk.2))); (case aS => exact (below_size HB.out)); (case aL => have := LMc8.out; omega); intro v338 w10 ho hb hg hat; rw [← Ny337.out] at ho; have HO339 := Aside0.mk (ho); replace HO336 := Aside0.mk (Kd.R_after (ok := (fun _ => True)) HO336.out hg hat); replace HB := Aside0.mk (hb); clear HO_7; clear ho hb hg hat))
       go_roundg k1
       case measure => have := HK1.out; omega
       case rel => exact ⟨(y337), (wrap64 (x14_1 + 1)), (by (rfl)), H', ⟨by have := HK1.out; omega⟩, ⟨by exact Kd.R_mono HO339.out (fun _ hk => trivial)⟩, ⟨by exact HB.out⟩⟩
      ·rw [if_neg c8] at H
       exact absurd H (by simp)
     ·rw [if_neg c6] at H
      exact absurd H (by simp)
    ·rw [if_neg c5] at H
     exact absurd H (by simp)
   ·rw [if_neg c4] at H
    have c4b0 : decide (x14_1 < (l2.length : Int)) = false := decide_eq_false c4
    clear c4
    obtain rfl := Option.some.inj H
    go_wp2
    go_ret
    exact ⟨_, by (rfl), by exact HO_7.out, by exact HB.out⟩
end Go.Proofs.YtgnonglkibhnhaaDoor.Print
