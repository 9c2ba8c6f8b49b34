-- laid by this session's own program (wip/mkprint.sh) for this claim
import Derived.Test.Ytgnonglkibhnhaa0
import Derived.Test.YtgnonglkibhnhaaF13
import Derived.Test.YtgnonglkibhnhaaF14
import Derived.Test.YtgnonglkibhnhaaF17
namespace Go.Proofs.Ytgnonglkibhnhaa.Print
open Go.RowKit Go.Proofs.YtgnonglkibhnhaaW.PrintWords Go.Proofs.YtgnonglkibhnhaaW.PrintLast Go.Proofs.YtgnonglkibhnhaaW.PrintMore
attribute [local go_sem] max2_int min2_int max_two min_two max_three min_three max_four min_four   -- for this text's walks alone
set_option linter.unusedVariables false
set_option linter.unusedSimpArgs false

/-! ### frame_All: function 15 -/
def frame_All.f (k : Nat) (l0 : List Int) (a1 : Int) (a2 : Bool) : Option ((List (List Int)) × Int × Int × Int × Int × Int) := (DF.feed k a1 a2 DF.init l0).bind fun s => some (s.done, s.tg, s.ta, s.ts, s.tl, s.tw)
theorem frame_All.mono (l0 : List Int) (a1 : Int) (a2 : Bool) (k : Nat) : LeO (frame_All.f k l0 a1 a2) (frame_All.f (k + 1) l0 a1 a2) := LeO.bind (DF.feed_mono _ _ k _ _) fun _ => LeO.refl _
set_option maxHeartbeats 8000000 in
set_option maxRecDepth 100000 in
theorem frame_All.calls (k : Nat) (A0 : Option Addr) (c0 : Nat) (l0 : List Int) (a1 : Int) (a2 : Bool) (r1 : List (List Int)) (r2 r3 r4 r5 r6 : Int) (w : World) (hr0 : Kd.C (Kd.int .u8) w A0 l0.length l0) (hc0 : l0.length ≤ c0) (h : frame_All.f k l0 a1 a2 = some (r1, r2, r3, r4, r5, r6)) :
    Calls Try.prog 15 #[.slice A0 l0.length c0, .int .u32 a1, .bool a2] w fun e w' => ∃ v0_ : Value, e = .returned (.tuple #[v0_, .agg #[.int .i64 r2, .int .i64 r3, .int .i64 r4, .int .i64 r5, .int .i64 r6]]) ∧ Kd.S (Kd.slice 5 (Kd.int .u8)) 26 w' w.heap.size (fun _ => True) v0_ r1 ∧ Below w.heap.size w w' := by
  have hu := Try.underlying40
  obtain ⟨s, hs, h⟩ := Option.bind_eq_some_iff.1 h
  obtain ⟨rfl, rfl, rfl, rfl, rfl, rfl⟩ : s.done = r1 ∧ s.tg = r2 ∧ s.ta = r3 ∧ s.ts = r4 ∧ s.tl = r5 ∧ s.tw = r6 := by
    injection h with h
    injection h with h1 h
    injection h with h2 h
    injection h with h3 h
    injection h with h4 h
    injection h with h5 h6
    exact ⟨h1, h2, h3, h4, h5, h6⟩
  clear h
  have HS := Aside0.mk hs
  have HA := Aside0.mk (Kd.C_F (Kd.heap_int .u8) hr0)
  have HB := Aside0.mk (Below.refl w.heap.size w)
  clear hs hr0 hc0
  go_enter Try.func15, Try.ntmps15
  go_wp2_with (((with_reducible refine gate_dst (N := 7) rfl ?_); refine box_event ?hg (N := 7) ?hd (cs := #[.int .i64 0, .int .i64 0, .int .i64 0, .int .i64 0, .int .i64 0]) (t := 40) ?hr ?_; (case hd => rfl); (case hg => rfl); (case hr => first | (go_simp; done) | (go_simp; rfl)); intro g7 hg w5 hbox hb; have BK5 := Aside0.mk hbox; have LG5 := Aside0.mk (blk_lt hbox); have GE7 : Aside0 (w.heap.size ≤ g7) := ⟨Nat.le_of_eq hg.symm⟩; have HB5 := Aside0.mk (below_step HB.out hb); clear hg hbox hb))
  refine (frame_New.calls a1 a2 _).mono ?_
  rintro e w6 ⟨rfl, ⟨hd⟩, ⟨hb⟩⟩
  obtain ⟨p, hp⟩ : ∃ p, p = w5.heap.size := ⟨_, rfl⟩
  have HP : Aside0 (w.heap.size ≤ p) := ⟨by rw [hp]; exact HB5.out.size⟩
  have HPG : Aside0 (g7 ≠ p) := ⟨by rw [hp]; exact Nat.ne_of_lt LG5.out⟩
  rw [← hp] at hd
  have BK6 := Aside0.mk (blk_below BK5.out hb)
  have HB6 := Aside0.mk (below_step HB5.out hb)
  have HD6 := Aside0.mk (hd w6.heap.size)
  have HP6 : Aside0 (p ≤ w6.heap.size) := ⟨by rw [hp]; exact hb.size⟩
  rw [← hp]
  clear hd hb hp
  go_wp2_with (fail)
  refine (frame_Deframer_Feed.calls k p p _ a1 a2 DF.init s A0 c0 l0 _ ⟨HD6.out.blk, HD6.out.held, HD6.out.done, Nat.le_refl _⟩ HP6.out (Kd.F_mono (Kd.F_below HA.out HB6.out) (fun k_ hk => ⟨Nat.ne_of_lt (Nat.lt_of_lt_of_le hk HP.out), by simp [Value.ownBlock]⟩)) HS.out).mono ?_
  rintro e w7 ⟨v0, rfl, ⟨vh, hd, ho, hk, hv⟩⟩
  have BK7 := Aside0.mk (blk_kept BK6.out hk.kept (fun h_ => h_.elim HPG.out (fun h2_ => by simp [Value.ownBlock] at h2_)))
  have HB7 : Aside0 (Below w.heap.size w w7) := ⟨HB6.out.trans (hk.bel.mono HP.out)⟩
  have HO7 := Aside0.mk (Kd.S_lower (Kd.S_mono (Kd.S_types ho BK7.out (by decide)) (fun k_ h_ => h_.2)) (below_size HB6.out))
  have HD7 := Aside0.mk (hd 0)
  clear hd ho hk hv
  go_wp2_with (fail)
  refine (frame_Deframer_Tally.calls p 0 p vh _ a1 a2 _ _ HD7.out).mono ?_
  rintro e w8 ⟨rfl, ⟨hb⟩⟩
  have BK8 := Aside0.mk (blk_below BK7.out hb)
  have HB8 := Aside0.mk (below_step HB7.out hb)
  have HO8 := Aside0.mk (Kd.S_below HO7.out hb)
  clear hb
  have hc0 : w8.cell? ⟨g7, 0, none⟩ = some (.int .i64 0) := (blk_cell BK8.out 0).trans rfl
  have hf0 := blk_frozen BK8.out 0
  have hc1 : w8.cell? ⟨g7, 1, none⟩ = some (.int .i64 0) := (blk_cell BK8.out 1).trans rfl
  have hf1 := blk_frozen BK8.out 1
  have hc2 : w8.cell? ⟨g7, 2, none⟩ = some (.int .i64 0) := (blk_cell BK8.out 2).trans rfl
  have hf2 := blk_frozen BK8.out 2
  have hc3 : w8.cell? ⟨g7, 3, none⟩ = some (.int .i64 0) := (blk_cell BK8.out 3).trans rfl
  have hf3 := blk_frozen BK8.out 3
  have hc4 : w8.cell? ⟨g7, 4, none⟩ = some (.int .i64 0) := (blk_cell BK8.out 4).trans rfl
  have hf4 := blk_frozen BK8.out 4
  go_wp2
  have BK9 := blk_set (blk_set (blk_set (blk_set (blk_set BK8.out 0 (.int .i64 s.tg)) 1 (.int .i64 s.ta)) 2 (.int .i64 s.ts)) 3 (.int .i64 s.tl)) 4 (.int .i64 s.tw)
  have hu := Try.underlying40
  refine bodyPost_ret (results_tc rfl _ _ g7 40 #[.int .i64 s.tg, .int .i64 s.ta, .int .i64 s.ts, .int .i64 s.tl, .int .i64 s.tw] (0, 0) _ rfl BK9 hu rfl (by kernel_rfl)) rfl ?_
  refine ⟨_, rfl, Kd.S_mono (ok' := fun _ => True) (Kd.S_far (Kd.S_far (Kd.S_far (Kd.S_far (Kd.S_far HO8.out (fun _ h_ => h_) _) (fun _ h_ => h_) _) (fun _ h_ => h_) _) (fun _ h_ => h_) _) (fun _ h_ => h_) _) (fun _ _ => trivial), ?_⟩
  exact below_set (below_set (below_set (below_set (below_set HB8.out GE7.out) GE7.out) GE7.out) GE7.out) GE7.out

end Go.Proofs.Ytgnonglkibhnhaa.Print
