/- The law FrameChunks, over numbers and lists: in whatever chunks a stream is fed, the same bodies come of it, in the same order, and the same counts; no conditions. -/
import Derived.Test.YtgnonglkibhnhaaQAllFrameChunks
import Derived.Test.YtgnonglkibhnhaaF4
namespace Go.Proofs.Ytgnonglkibhnhaa.Pure
open Go.RowKit Go.Proofs.Ytgnonglkibhnhaa.Print Go.Proofs.Ytgnonglkibhnhaa.Q Go.Proofs.YtgnonglkibhnhaaW.PrintWords Go.Proofs.YtgnonglkibhnhaaW.PrintLast Go.Proofs.YtgnonglkibhnhaaW.PrintMore
set_option linter.unusedVariables false
set_option linter.unusedSimpArgs false

theorem chunks_fin (m : Int) (wide : Bool) (b : List Int) (cuts : List Int) (h0 : 0 ≤ m) (h1 : m < 4294967296) (hb : Bytes b) (hl : b.length ≤ 3000) (at_ : Nat) (ha : at_ ≤ b.length) (x12 : Int) (hx : ¬ x12 < (cuts.length : Int)) :
    Ev (fun k => umpirelaw07_FrameChunks.l0 k b cuts m wide (feedv m wide DF.init (b.take at_)).done (at_ : Int) x12) true := by
  have h := feedv_held m wide (b.take at_) DF.init (hb.take at_) Bytes.nil
  have h2 := feedv_held m wide b DF.init hb Bytes.nil
  have hi : DF.init.held.length = 0 := rfl
  have hd : DF.init.done.length = 0 := rfl
  have e := morev_all m wide (b.take at_) (b.drop at_)
  rw [List.take_append_drop] at e
  have hle : (feedv m wide DF.init (b.take at_)).done.length + (morev m wide (b.take at_) (b.drop at_)).1.length < 5864062014805 := by
    rw [← List.length_append, e]
    omega
  have g1 : (0 : Int) ≤ (at_ : Int) := by omega
  have g2 : (at_ : Int) ≤ (b.length : Int) := by omega
  have g3 : (feedv m wide DF.init b).done.length ≤ 1000000000 := by omega
  have g4 : (b.take at_).length + (b.drop at_).length ≤ 1000000000 := by rw [List.length_take, List.length_drop]; omega
  have g5 : b.length ≤ 1000000000 := by omega
  have ht : (morev m wide (b.take at_) (b.drop at_)).2 = (allv m wide b).2 := by
    unfold morev allv
    rw [List.take_append_drop]
  refine Ev.step (fun k => by rw [umpirelaw07_FrameChunks.l0, if_neg hx, if_pos g1, if_pos g2, Int.toNat_natCast]) ?_
  refine Ev.bind (more_spec_f m wide _ _ h0 h1 (hb.take at_) (hb.drop at_) g4) ?_
  simp only [hle, if_true, e]
  refine Ev.bind (all_spec_f m wide b h0 h1 hb g5) ?_
  refine Ev.bind (same_spec _ g3) ?_
  simp only [if_true, ht, beq_self_eq_true, Bool.and_true, Bool.and_self]
  exact Ev.now _
theorem chunks_loop (m : Int) (wide : Bool) (b : List Int) (cuts : List Int) (h0 : 0 ≤ m) (h1 : m < 4294967296) (hb : Bytes b) (hl : b.length ≤ 3000) (hc : ∀ x ∈ cuts, 0 ≤ x ∧ x < 65536) (hcl : cuts.length ≤ 100) : ∀ (d i at_ : Nat), cuts.length - i = d → i ≤ cuts.length → at_ ≤ b.length →
    Ev (fun k => umpirelaw07_FrameChunks.l0 k b cuts m wide (feedv m wide DF.init (b.take at_)).done (at_ : Int) (i : Int)) true := by
  intro d
  induction d with
  | zero =>
    intro i at_ hd hi ha
    exact chunks_fin m wide b cuts h0 h1 hb hl at_ ha (i : Int) (by omega)
  | succ d ih =>
    intro i at_ hd hi ha
    have hlt : i < cuts.length := by omega
    have hci := hc cuts[i] (List.getElem_mem hlt)
    obtain ⟨n, hn, hnl⟩ : ∃ n : Nat, mn (wrap64 cuts[i]) (wrap64 ((b.length : Int) - (at_ : Int))) = (n : Int) ∧ at_ + n ≤ b.length := by
      rw [w64 (by omega) (by omega), w64 (by omega) (by omega)]
      unfold mn
      split
      · exact ⟨b.length - at_, by omega, by omega⟩
      · exact ⟨(cuts[i]).toNat, by omega, by omega⟩
    have h := feedv_held m wide (b.take at_) DF.init (hb.take at_) Bytes.nil
    have h2 := feedv_held m wide (b.take (at_ + n)) DF.init (hb.take (at_ + n)) Bytes.nil
    have hi0 : DF.init.held.length = 0 := rfl
    have hd0 : DF.init.done.length = 0 := rfl
    have hlt2 : (b.take (at_ + n)).length = at_ + n := by rw [List.length_take]; omega
    have e := morev_all m wide (b.take at_) ((b.take (at_ + n)).drop at_)
    have et : b.take at_ ++ (b.take (at_ + n)).drop at_ = b.take (at_ + n) := take_chunk b at_ (at_ + n) (by omega)
    rw [et] at e
    have hle : (feedv m wide DF.init (b.take at_)).done.length + (morev m wide (b.take at_) ((b.take (at_ + n)).drop at_)).1.length < 5864062014805 := by
      rw [← List.length_append, e]
      omega
    have next := ih (i + 1) (at_ + n) (by omega) (by omega) hnl
    have g1 : ((i : Nat) : Int) < ((cuts.length : Nat) : Int) := by omega
    have g2 : (0 : Int) ≤ ((i : Nat) : Int) := by omega
    have g3 : (0 : Int) ≤ (at_ : Int) := by omega
    have g4 : (at_ : Int) ≤ (at_ : Int) + (n : Int) := by omega
    have g5 : (at_ : Int) + (n : Int) ≤ (b.length : Int) := by omega
    have g6 : (b.take at_).length + ((b.take (at_ + n)).drop at_).length ≤ 1000000000 := by rw [List.length_drop, hlt2, List.length_take]; omega
    have g7 : ((at_ : Int) + (n : Int)).toNat = at_ + n := by omega
    have e1 : wrap64 ((at_ : Int) + (n : Int)) = (at_ : Int) + (n : Int) := w64 (by omega) (by omega)
    have e2 : wrap64 ((i : Int) + 1) = ((i + 1 : Nat) : Int) := w64 (by omega) (by omega)
    refine Ev.step (fun k => by rw [umpirelaw07_FrameChunks.l0, if_pos g1, if_pos g2, rd_get i hlt, hn, e1, if_pos g3, if_pos g4, if_pos g5, Int.toNat_natCast, g7, e2]) ?_
    refine Ev.bind (more_spec_f m wide _ _ h0 h1 (hb.take at_) ((hb.take (at_ + n)).drop at_) g6) ?_
    simp only [hle, if_true, e]
    exact next
theorem FrameChunks : umpirelaw07_FrameChunks.Pure := by
  intro b cuts m wide hb1 hb2 hb3 hc1 hc2 hc3 hm
  have hb := bytes_wf hb3
  obtain ⟨h0, h1⟩ := wf_u32 hm
  have away : Ev (fun k => umpirelaw07_FrameChunks.j0 k b cuts m wide true) true := by
    refine Ev.step (f := fun k => (umpirelaw07_awake.f k).bind fun t => (some t)) (fun k => ?_) (Ev.bind awake_frame (Ev.now _))
    rw [umpirelaw07_FrameChunks.j0, if_pos rfl]
  apply Ev.rounds
  unfold umpirelaw07_FrameChunks.f
  refine Ev.bind awake_frame ?_
  simp only [if_true]
  by_cases a : (b.length : Int) > 3000
  · simp only [a, if_true]
    exact away
  · simp only [a, if_false]
    by_cases c : (cuts.length : Int) > 100
    · simp only [c, decide_true]
      exact away
    · simp only [c, decide_false]
      refine Ev.step (f := fun k => umpirelaw07_FrameChunks.l0 k b cuts m wide ([] : List (List Int)) 0 0) (fun k => ?_) ?_
      · rw [umpirelaw07_FrameChunks.j0, if_neg (by decide), if_neg (by decide)]
      · exact chunks_loop m wide b cuts h0 h1 hb (by omega) (fun x hx => wf_u16 (hc3 x hx)) (by omega) cuts.length 0 0 (by omega) (by omega) (by omega)
end Go.Proofs.Ytgnonglkibhnhaa.Pure
