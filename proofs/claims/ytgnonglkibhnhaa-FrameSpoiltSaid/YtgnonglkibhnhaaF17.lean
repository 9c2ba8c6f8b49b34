-- laid by this session's own program (wip/mkprint.sh) for this claim
import Derived.Test.Ytgnonglkibhnhaa0
import Derived.Test.YtgnonglkibhnhaaF13
namespace Go.Proofs.Ytgnonglkibhnhaa.Print
open Go.RowKit Go.Proofs.YtgnonglkibhnhaaW.PrintWords Go.Proofs.YtgnonglkibhnhaaW.PrintLast Go.Proofs.YtgnonglkibhnhaaW.PrintMore
attribute [local go_sem] max2_int min2_int max_two min_two max_three min_three max_four min_four   -- for this text's walks alone
set_option linter.unusedVariables false
set_option linter.unusedSimpArgs false

/-! ### frame_Deframer_Tally: function 17 -/
set_option maxHeartbeats 8000000 in
set_option maxRecDepth 100000 in
theorem frame_Deframer_Tally.calls (B D p : Nat) (vh vd : Value) (m : Int) (wide : Bool) (s : DF) (W : World) (h : DFI B D W p vh vd m wide s) :
    Calls Try.prog 17 #[.pointer (some ⟨p, 0, none⟩)] W fun e W' => e = .returned (.agg #[.int .i64 s.tg, .int .i64 s.ta, .int .i64 s.ts, .int .i64 s.tl, .int .i64 s.tw]) ∧ Aside0 (Below W.heap.size W W') := by
  have hu := Try.underlying56
  have hu2 := Try.underlying40
  have hc4 : W.cell? ⟨p, 4, none⟩ = some (.int .i64 s.tg) := h.cell 4 _ rfl
  have hc5 : W.cell? ⟨p, 5, none⟩ = some (.int .i64 s.ta) := h.cell 5 _ rfl
  have hc6 : W.cell? ⟨p, 6, none⟩ = some (.int .i64 s.ts) := h.cell 6 _ rfl
  have hc7 : W.cell? ⟨p, 7, none⟩ = some (.int .i64 s.tl) := h.cell 7 _ rfl
  have hc8 : W.cell? ⟨p, 8, none⟩ = some (.int .i64 s.tw) := h.cell 8 _ rfl
  have LP := blk_lt h.blk
  have LQ : p ≠ W.heap.size := Nat.ne_of_lt LP
  clear h
  go_enter Try.func17, Try.ntmps17
  go_wp2
  refine bodyPost_ret (results_single rfl (.cell W.heap.size 40 #[.int .i64 s.tg, .int .i64 s.ta, .int .i64 s.ts, .int .i64 s.tl, .int .i64 s.tw] (0, 0) _ rfl (heap_alloc_new W _) Try.underlying40 rfl (by kernel_rfl) .nil)) rfl ?_
  exact ⟨rfl, ⟨below_alloc (Below.refl _ _) _⟩⟩

end Go.Proofs.Ytgnonglkibhnhaa.Print
