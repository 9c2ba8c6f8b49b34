-- laid by this session's own program (wip/mkprint.sh) for this claim
import Derived.Test.Ytnjimecjpnjojaa0
import Derived.Test.YtnjimecjpnjojaaF53
namespace Go.Proofs.Ytnjimecjpnjojaa.Print
open Go.RowKit Go.Proofs.YtnjimecjpnjojaaW.PrintWords Go.Proofs.YtnjimecjpnjojaaW.PrintLast Go.Proofs.YtnjimecjpnjojaaW.PrintMore
attribute [local go_sem] max2_int min2_int max_two min_two max_three min_three max_four min_four   -- for this text's walks alone
set_option linter.unusedVariables false
set_option linter.unusedSimpArgs false

/-! ### terms_Right: function 29 -/
def terms_Right.f (k : Nat) (a0_0 : Int) (l0_1 : List Int) : Option Bool :=
  if (Lit.int .i64 a0_0).wf = true then (if terms_readers.fn a0_0 = -1 then some false else (terms_readers.step k a0_0 terms_readers.T.zero l0_1).bind fun r => some r.2) else none
theorem terms_Right.mono (a0_0 : Int) (l0_1 : List Int) (k : Nat) : LeO (terms_Right.f k a0_0 l0_1) (terms_Right.f (k + 1) a0_0 l0_1) := by
  unfold terms_Right.f
  exact LeO.ite (LeO.ite (LeO.refl _) (LeO.bind (terms_readers.mono_step _ _ _ k) fun _ => LeO.refl _)) (LeO.refl _)
set_option maxHeartbeats 8000000 in
set_option maxRecDepth 100000 in
theorem terms_Right.calls (k : Nat) (a0_0 : Int) (A0_1 : Option Addr) (c0_1 : Nat) (l0_1 : List Int) (r : Bool) (w : World) (hr0_1 : Kd.C (Kd.int .u8) w A0_1 l0_1.length l0_1) (hc0_1 : l0_1.length ≤ c0_1) (h : terms_Right.f k a0_0 l0_1 = some r) :
    Calls Try.prog 29 #[.agg #[.int .i64 a0_0, .slice A0_1 l0_1.length c0_1]] w fun e w' => e = .returned (.bool r) ∧ Below w.heap.size w w' := by
  have huO := Try.underlying55
  have huT := Try.underlying61
  unfold terms_Right.f at h
  by_cases hw : (Lit.int .i64 a0_0).wf = true
  · rw [if_pos hw] at h
    have HWF := Aside0.mk hw
    have HR0 := Aside0.mk hr0_1
    have HC0 := Aside0.mk hc0_1
    have HW := Aside0.mk (Below.refl w.heap.size w)
    clear hw hr0_1 hc0_1
    by_cases hfn : terms_readers.fn a0_0 = -1
    · rw [if_pos hfn] at h
      have HFN := Aside0.mk hfn
      have HR := Aside0.mk (Option.some.inj h)
      clear hfn h
      go_enter Try.func29, Try.ntmps29
      go_wp2_with (first | ((with_reducible refine gate_dst (N := 1) rfl ?_); refine box_event ?hg (N := 1) ?hd (cs := #[.int .i64 a0_0, .slice A0_1 l0_1.length c0_1]) (t := 55) ?hr ?_; (case hd => rfl); (case hg => rfl); (case hr => first | (go_simp; done) | (go_simp; rfl)); intro g1 hg w1 hbox hb; have BK1 := Aside0.mk hbox; have HB1 := Aside0.mk (below_step HW.out hb); have GE1 : Aside0 (w.heap.size ≤ g1) := ⟨by rw [hg]; exact Nat.le_refl _⟩; clear hg hbox hb HW) | ((with_reducible refine gate_dst (N := 3) rfl ?_); refine box_event ?hg (N := 3) ?hd (cs := #[.bool false, .int .i64 0, .bool false, .int .u32 0, .int .i64 0, .bool false, .bool false, .int .u32 0, .bool false, .bool false]) (t := 61) ?hr ?_; (case hd => rfl); (case hg => rfl); (case hr => first | (go_simp; done) | (go_simp; rfl)); intro g3 hg w2 hbox hb; have BK3 := Aside0.mk hbox; have GE3 : Aside0 (w.heap.size ≤ g3) := ⟨by rw [hg]; exact below_size HB1.out⟩; have BK1_2 := Aside0.mk (blk_below BK1.out hb); have HB2 := Aside0.mk (below_step HB1.out hb); clear hg hbox hb BK1 HB1))
      have hc1_0 : w2.cell? ⟨g1, 0, none⟩ = some (.int .i64 a0_0) := (blk_cell BK1_2.out 0).trans rfl
      have hf1_0 := blk_frozen BK1_2.out 0
      have hc1_1 : w2.cell? ⟨g1, 1, none⟩ = some (.slice A0_1 l0_1.length c0_1) := (blk_cell BK1_2.out 1).trans rfl
      have hf1_1 := blk_frozen BK1_2.out 1
      go_region_held (fun w' => w'.cell? ⟨g1, 0, none⟩ = some (.int .i64 a0_0)) ((first | exact hc4_0 | exact hc1_0)) (with_reducible refine (terms_readers.calls _).mono ?_; rintro e w4 ⟨b, rfl, hT, hb0, hb⟩; have hl := hT.look_nil _ HWF.out HFN.out; have hld := hT.drew.look_nil _ HWF.out HFN.out; have BK1_4 := Aside0.mk (blk_below (blk_drew BK1_2.out) hb); have BK3_4 := Aside0.mk (blk_below (blk_drew BK3.out) hb); have HB4 := Aside0.mk (below_step (below_drew HB2.out) hb); clear hT hb0 hb BK1_2 BK3 HB2; have hc4_0 : w4.cell? ⟨g1, 0, none⟩ = some (.int .i64 a0_0) := (blk_cell BK1_4.out 0).trans rfl; have hf4_0 := blk_frozen BK1_4.out 0; have hc4_1 : w4.cell? ⟨g1, 1, none⟩ = some (.slice A0_1 l0_1.length c0_1) := (blk_cell BK1_4.out 1).trans rfl; have hf4_1 := blk_frozen BK1_4.out 1)
      have n1 := terms_readers.neq_nil
      have n2 := terms_readers.neq_fn
      go_wp2_with (fail)
      go_ret
      exact ⟨by rw [← HR.out]; rfl, HB4.out⟩
    · rw [if_neg hfn] at h
      obtain ⟨⟨t', ok⟩, hs, h⟩ := Option.bind_eq_some_iff.1 h
      have HFN := Aside0.mk hfn
      have HS := Aside0.mk hs
      have HR : Aside0 (ok = r) := ⟨Option.some.inj h⟩
      clear hfn hs h
      go_enter Try.func29, Try.ntmps29
      go_wp2_with (first | ((with_reducible refine gate_dst (N := 1) rfl ?_); refine box_event ?hg (N := 1) ?hd (cs := #[.int .i64 a0_0, .slice A0_1 l0_1.length c0_1]) (t := 55) ?hr ?_; (case hd => rfl); (case hg => rfl); (case hr => first | (go_simp; done) | (go_simp; rfl)); intro g1 hg w1 hbox hb; have BK1 := Aside0.mk hbox; have HB1 := Aside0.mk (below_step HW.out hb); have GE1 : Aside0 (w.heap.size ≤ g1) := ⟨by rw [hg]; exact Nat.le_refl _⟩; clear hg hbox hb HW) | ((with_reducible refine gate_dst (N := 3) rfl ?_); refine box_event ?hg (N := 3) ?hd (cs := #[.bool false, .int .i64 0, .bool false, .int .u32 0, .int .i64 0, .bool false, .bool false, .int .u32 0, .bool false, .bool false]) (t := 61) ?hr ?_; (case hd => rfl); (case hg => rfl); (case hr => first | (go_simp; done) | (go_simp; rfl)); intro g3 hg w2 hbox hb; have BK3 := Aside0.mk hbox; have GE3 : Aside0 (w.heap.size ≤ g3) := ⟨by rw [hg]; exact below_size HB1.out⟩; have BK1_2 := Aside0.mk (blk_below BK1.out hb); have HB2 := Aside0.mk (below_step HB1.out hb); clear hg hbox hb BK1 HB1))
      have hc1_0 : w2.cell? ⟨g1, 0, none⟩ = some (.int .i64 a0_0) := (blk_cell BK1_2.out 0).trans rfl
      have hf1_0 := blk_frozen BK1_2.out 0
      have hc1_1 : w2.cell? ⟨g1, 1, none⟩ = some (.slice A0_1 l0_1.length c0_1) := (blk_cell BK1_2.out 1).trans rfl
      have hf1_1 := blk_frozen BK1_2.out 1
      go_region_held (fun w' => w'.cell? ⟨g1, 0, none⟩ = some (.int .i64 a0_0)) ((first | exact hc4_0 | exact hc1_0)) (with_reducible refine (terms_readers.calls _).mono ?_; rintro e w4 ⟨b, rfl, hT, hb0, hb⟩; have hl := hT.look_fn _ HWF.out HFN.out; have hld := hT.drew.look_fn _ HWF.out HFN.out; have BK1_4 := Aside0.mk (blk_below (blk_drew BK1_2.out) hb); have BK3_4 := Aside0.mk (blk_below (blk_drew BK3.out) hb); have HB4 := Aside0.mk (below_step (below_drew HB2.out) hb); clear hT hb0 hb BK1_2 BK3 HB2; have hc4_0 : w4.cell? ⟨g1, 0, none⟩ = some (.int .i64 a0_0) := (blk_cell BK1_4.out 0).trans rfl; have hf4_0 := blk_frozen BK1_4.out 0; have hc4_1 : w4.cell? ⟨g1, 1, none⟩ = some (.slice A0_1 l0_1.length c0_1) := (blk_cell BK1_4.out 1).trans rfl; have hf4_1 := blk_frozen BK1_4.out 1)
      have n1 := terms_readers.neq_nil
      have n2 := terms_readers.neq_fn
      have n3 := terms_readers.enters _ HFN.out
      go_wp2_with (fail)
      refine (terms_readers.read k a0_0 terms_readers.T.zero A0_1 c0_1 l0_1 t' ok g3 _ BK3_4.out (Kd.C_below HR0.out HB4.out) HC0.out HS.out).mono ?_
      rintro e w5 ⟨rfl, _, ht⟩
      have HB5 := Aside0.mk (ht.below w HB4.out GE3.out)
      clear ht
      go_wp2_with (fail)
      go_ret
      exact ⟨by rw [← HR.out]; rfl, HB5.out⟩
  · rw [if_neg hw] at h
    cases h

end Go.Proofs.Ytnjimecjpnjojaa.Print
