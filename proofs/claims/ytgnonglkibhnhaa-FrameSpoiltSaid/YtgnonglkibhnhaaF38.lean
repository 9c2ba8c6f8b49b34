-- laid by this session's own program (wip/mkprint.sh) for this claim
import Derived.Test.Ytgnonglkibhnhaa0
import Derived.Test.YtgnonglkibhnhaaF13
import Derived.Test.YtgnonglkibhnhaaF48
namespace Go.Proofs.Ytgnonglkibhnhaa.Print
open Go.RowKit Go.Proofs.YtgnonglkibhnhaaW.PrintWords Go.Proofs.YtgnonglkibhnhaaW.PrintLast Go.Proofs.YtgnonglkibhnhaaW.PrintMore
attribute [local go_sem] max2_int min2_int max_two min_two max_three min_three max_four min_four   -- for this text's walks alone
set_option linter.unusedVariables false
set_option linter.unusedSimpArgs false

/-! ### frame_Deframer_inside: function 38 -/
theorem DF.close_held {k : Nat} {m : Int} {wide : Bool} {s s' : DF} (h : DF.close k m wide s = some s') : s'.held = s.held ∧ s'.inn = s.inn := by
  unfold DF.close at h
  obtain ⟨x, _, h⟩ := Option.bind_eq_some_iff.1 h
  by_cases h1 : x.2 = true
  · rw [if_pos h1] at h
    by_cases h2 : x.1.length = 0
    · rw [if_pos h2] at h
      obtain rfl := Option.some.inj h
      exact ⟨rfl, rfl⟩
    · rw [if_neg h2] at h
      by_cases h3 : (x.1.length : Int) < DF.size wide + 2
      · rw [if_pos h3] at h
        obtain rfl := Option.some.inj h
        exact ⟨rfl, rfl⟩
      · rw [if_neg h3] at h
        by_cases h4 : (x.1.length : Int) > DF.size wide + 65535
        · rw [if_pos h4] at h
          obtain rfl := Option.some.inj h
          exact ⟨rfl, rfl⟩
        · rw [if_neg h4] at h
          obtain ⟨y, _, h⟩ := Option.bind_eq_some_iff.1 h
          by_cases h5 : y.2 = true
          · rw [if_pos h5] at h
            by_cases h6 : s.done.length < 5864062014805
            · rw [if_pos h6] at h
              obtain rfl := Option.some.inj h
              exact ⟨rfl, rfl⟩
            · rw [if_neg h6] at h
              cases h
          · rw [if_neg h5] at h
            obtain rfl := Option.some.inj h
            exact ⟨rfl, rfl⟩
  · rw [if_neg h1] at h
    obtain rfl := Option.some.inj h
    exact ⟨rfl, rfl⟩
set_option maxHeartbeats 8000000 in
set_option maxRecDepth 100000 in
theorem frame_Deframer_inside.more (B D p : Nat) (vh vd : Value) (m : Int) (wide : Bool) (s : DF) (c : Int) (W : World) (h : DFI B D W p vh vd m wide s) (hc : c ≠ 126) (hB : B ≤ W.heap.size) (hl : s.held.length < 140737488355328) :
    Calls Try.prog 38 #[.pointer (some ⟨p, 0, none⟩), .int .u8 c] W fun e W' => e = .returned (.tuple #[]) ∧ Aside0 (∃ vh', DFI B D W' p vh' vd m wide { s with held := s.held ++ [c] } ∧ DFK B W W' (fun k => k = p ∨ some k = vh.ownBlock) ∧ (vh'.ownBlock = vh.ownBlock ∨ ∃ b, vh'.ownBlock = some b ∧ W.heap.size ≤ b)) := by
  have hu := Try.underlying56
  have h1 : (c != 126) = true := by simpa using hc
  have h2 : decide (c = 126) = false := by simpa using hc
  have h3 : (c == 126) = false := by simpa using hc
  have HBB := Aside0.mk hB
  have HL := Aside0.mk hl
  have HH := Aside0.mk h
  have LP : Aside0 (p < W.heap.size) := ⟨blk_lt h.blk⟩
  have LV := Aside0.mk (Kd.S_lt h.done)
  have hc3 : W.cell? ⟨p, 3, none⟩ = some vh := h.cell 3 _ rfl
  have hf3 := h.free 3
  clear h hc hB hl
  go_enter Try.func38, Try.ntmps38
  go_wp2_with (((with_reducible refine gate_builtin (b := .append) (xs := #[.tmp 10, .tmp 12]) rfl ?_); at_builtin; refine Kd.R_append (Kd.int .u8) (w0 := W) B rfl (.tmp 10) (.tmp 12) 26 5 (.int .u8 0) 1 rfl Try.underlying26 info5 rfl (by decide) (by omega) vh s.held c [.int .u8 c] (fun k => k ≠ p ∧ some k ≠ vd.ownBlock) (fun _ => False) rfl rfl ?aP (fun _ hk => hk.elim) ?aF ?aO ?aB ?aS ?aL ?_; (case aP => exact rfl); (case aB => exact Below.refl _ _); (case aF => exact fun k hk => ⟨fun e_ => by have h_ := LP.out; omega, fun e_ => by have h_ := LV.out k e_.symm; omega⟩); (case aO => exact HH.out.held); (case aS => exact HBB.out); (case aL => have := HL.out; omega); intro v5 w5 ho hb hg hat; obtain ⟨A5, c5, eo5⟩ := Kd.R_slice ho; subst eo5; have BK5 := Aside0.mk (blk_grown HH.out.blk hg (Kd.R_ne HH.out.held HH.out.blk (by decide))); have HO5 := Aside0.mk ho; have HB5 := Aside0.mk hb; have HG5 := Aside0.mk hg; have HA5 := Aside0.mk hat; have hc5 : w5.cell? ⟨p, 3, none⟩ = some vh := (blk_cell BK5.out 3).trans rfl; have hf5 := blk_frozen BK5.out 3; clear ho hb hg hat))
  refine bodyPost_ret (results_none rfl _ _ _) rfl ?_
  have ho6 := HO5.out
  have ha6 := HA5.out
  simp only [List.length_append, List.length_singleton] at ho6 ha6
  refine ⟨rfl, ⟨.slice A5 (s.held.length + 1) c5, ⟨?_, ?_, ?_, HH.out.le⟩, ?_, ha6⟩⟩
  · exact blk_set BK5.out 3 _
  · exact Kd.R_far ho6 (fun k hk => hk.1) _
  · exact Kd.S_far (Kd.S_mono (Kd.S_after (Kd.S_mono HH.out.done (fun k hk => ⟨hk.1, hk.2⟩)) HG5.out ha6) (fun k hk => hk)) (fun k hk => hk.1) _
  · exact DFK.set (S := fun k => k = p ∨ some k = vh.ownBlock) (DFK.grown (DFK.refl B W (fun k => k = p ∨ some k = vh.ownBlock)) (Nat.le_refl _) HB5.out HG5.out (fun k hk => Or.inr hk.symm)) (Or.inl (show p = p from rfl)) HH.out.le 3 _
set_option maxHeartbeats 8000000 in
set_option maxRecDepth 100000 in
theorem frame_Deframer_inside.flag (k : Nat) (B D p : Nat) (vh vd : Value) (m : Int) (wide : Bool) (s s' : DF) (W : World) (h : DFI B D W p vh vd m wide s) (hB : B ≤ D) (hD : D ≤ W.heap.size) (hs : DF.close k m wide s = some s') :
    Calls Try.prog 38 #[.pointer (some ⟨p, 0, none⟩), .int .u8 126] W fun e W' => e = .returned (.tuple #[]) ∧ Aside0 (∃ vh' vd', DFI B D W' p vh' vd' m wide { s' with held := [] } ∧ DFK B W W' (fun k => k = p ∨ some k = vd.ownBlock) ∧ vh'.ownBlock = vh.ownBlock) := by
  have hu := Try.underlying56
  have hsh := DF.close_held hs
  obtain ⟨Ah, ch, rfl, hle, hC⟩ := Kd.R_reads h.held
  have HLE := Aside0.mk hle
  have hc3 : W.cell? ⟨p, 3, none⟩ = some (.slice Ah s.held.length ch) := h.cell 3 _ rfl
  have hf3 := h.free 3
  have HBB := Aside0.mk hB
  have HD := Aside0.mk hD
  have HS := Aside0.mk hs
  have HSH := Aside0.mk hsh
  have HH := Aside0.mk h
  clear h hB hD hs hsh hle hC
  go_enter Try.func38, Try.ntmps38
  go_wp2_with (fail)
  refine (frame_Deframer_close.calls k B D p _ vd m wide s s' W HH.out HBB.out HD.out HS.out).mono ?_
  rintro e w1 ⟨rfl, ⟨vd1, hh, hk⟩⟩
  have HH1 := Aside0.mk hh
  have HK1 := Aside0.mk hk
  clear hc3 hf3 hh hk
  have hc3 : w1.cell? ⟨p, 3, none⟩ = some (.slice Ah s.held.length ch) := HH1.out.cell 3 _ rfl
  have hf3 := HH1.out.free 3
  go_wp2
  go_end0
  refine ⟨rfl, ⟨.slice Ah 0 ch, vd1, ⟨?_, ?_, ?_, HH1.out.le⟩, ?_, ?_⟩⟩
  · exact blk_set HH1.out.blk 3 _
  · exact Kd.R_far (Kd.R_take HH1.out.held (Nat.zero_le _)) (fun k hk => hk.1) _
  · exact Kd.S_far (Kd.S_mono HH1.out.done (fun k hk => ⟨hk.1, fun e_ => hk.2 (by rw [e_]; cases Ah <;> rfl)⟩)) (fun k hk => hk.1) _
  · exact HK1.out.set (Or.inl rfl) HH1.out.le 3 _
  · cases Ah <;> rfl

end Go.Proofs.Ytgnonglkibhnhaa.Print
