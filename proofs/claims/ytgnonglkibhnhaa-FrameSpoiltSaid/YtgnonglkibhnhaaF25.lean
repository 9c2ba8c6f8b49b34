-- laid by this session's own program (wip/mkprint.sh) for this claim
import Derived.Test.Ytgnonglkibhnhaa0
import Derived.Test.YtgnonglkibhnhaaF13
namespace Go.Proofs.Ytgnonglkibhnhaa.Print
open Go.RowKit Go.Proofs.YtgnonglkibhnhaaW.PrintWords Go.Proofs.YtgnonglkibhnhaaW.PrintLast Go.Proofs.YtgnonglkibhnhaaW.PrintMore
attribute [local go_sem] max2_int min2_int max_two min_two max_three min_three max_four min_four   -- for this text's walks alone
set_option linter.unusedVariables false
set_option linter.unusedSimpArgs false

/-! ### frame_Deframer_outside: function 25 -/
set_option maxHeartbeats 8000000 in
set_option maxRecDepth 100000 in
theorem frame_Deframer_outside.flag (B D p : Nat) (vh vd : Value) (m : Int) (wide : Bool) (s : DF) (W : World) (h : DFI B D W p vh vd m wide s) (hB : B ≤ W.heap.size) (hs : s.inn = false) :
    Calls Try.prog 25 #[.pointer (some ⟨p, 0, none⟩), .int .u8 126] W fun e W' => e = .returned (.tuple #[]) ∧ Aside0 (DFI B D W' p vh vd m wide { s with inn := true }) ∧ Aside0 (DFK B W W' (fun k => k = p)) := by
  have HH := Aside0.mk h
  have HBB := Aside0.mk hB
  have hu := Try.underlying56
  have hc2 := h.cell 2 _ rfl
  have hf2 := h.free 2
  have HS := Aside0.mk hs
  clear h hB hs
  go_enter Try.func25, Try.ntmps25
  go_wp2
  go_end0
  exact ⟨rfl, ⟨HH.out.set 2 _ { s with inn := true } (by unfold DF.cells; rfl) rfl rfl⟩, ⟨DFK.set (S := fun k => k = p) (DFK.refl B W _) (show p = p from rfl) HH.out.le 2 _⟩⟩
set_option maxHeartbeats 8000000 in
set_option maxRecDepth 100000 in
theorem frame_Deframer_outside.other (c : Int) (hc : c ≠ 126) (p : Nat) (W : World) :
    Calls Try.prog 25 #[.pointer (some ⟨p, 0, none⟩), .int .u8 c] W fun e W' => e = .returned (.tuple #[]) ∧ W' = W := by
  have h1 : (c == 126) = false := by simpa using hc
  have h2 : decide (c = 126) = false := by simpa using hc
  clear hc
  go_enter Try.func25, Try.ntmps25
  go_wp2
  go_end0
  exact ⟨rfl, rfl⟩

end Go.Proofs.Ytgnonglkibhnhaa.Print
