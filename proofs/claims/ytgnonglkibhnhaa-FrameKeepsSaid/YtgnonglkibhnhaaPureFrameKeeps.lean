/- The law FrameKeeps, over numbers and lists: what was handed in and is altered afterwards isn't kept: the same comes of it; no conditions. -/
import Derived.Test.YtgnonglkibhnhaaQAllFrameKeeps
import Derived.Test.YtgnonglkibhnhaaF7
namespace Go.Proofs.Ytgnonglkibhnhaa.Pure
open Go.RowKit Go.Proofs.Ytgnonglkibhnhaa.Print Go.Proofs.Ytgnonglkibhnhaa.Q Go.Proofs.YtgnonglkibhnhaaW.PrintWords Go.Proofs.YtgnonglkibhnhaaW.PrintLast Go.Proofs.YtgnonglkibhnhaaW.PrintMore
set_option linter.unusedVariables false
set_option linter.unusedSimpArgs false

theorem kf_tail (m : Int) (wide : Bool) (b : List Int) (h0 : 0 ≤ m) (h1 : m < 4294967296) (hb : Bytes b) (hl : b.length ≤ 3000) (x12 x14 : List (List Int)) (hx : x12 ++ x14 = (feedv m wide DF.init b).done) (d : Nat) : ∀ (x : List Int) (i : Nat), x.length = b.length → x.length - i = d → i ≤ x.length →
    Ev (fun k => umpirelaw07_FrameKeeps.l1 k b m wide x x12 x14 (i : Int)) true := by
  have h := feedv_held m wide b DF.init hb Bytes.nil
  have hi0 : DF.init.held.length = 0 := rfl
  have hd0 : DF.init.done.length = 0 := rfl
  have hle : x12.length + x14.length ≤ 3000 := by rw [← List.length_append, hx]; omega
  induction d with
  | zero =>
    intro x i hxl hd hi
    have g1 : ¬ ((i : Nat) : Int) < ((x.length : Nat) : Int) := by omega
    have g2 : ([] : List (List Int)).length + x12.length < 5864062014805 := by rw [List.length_nil, Nat.zero_add]; omega
    have g3 : x12.length + x14.length < 5864062014805 := by omega
    have g4 : (x12 ++ x14).length ≤ 1000000000 := by rw [List.length_append]; omega
    have g5 : b.length ≤ 100000000 := by omega
    refine Ev.step (fun k => by rw [umpirelaw07_FrameKeeps.l1, if_neg g1]) ?_
    refine Ev.bind (rall_spec m wide h0 h1 b hb g5) ?_
    refine Ev.congr (f := fun k => (umpireref07_Same.f k (x12 ++ x14) (x12 ++ x14)).bind fun t => some t) (fun k => ?_) (Ev.bind (same_spec _ g4) (Ev.now _))
    rw [Option.bind_some, if_pos g2, Option.bind_some, List.nil_append, if_pos g3, show (allv m wide b).1 = x12 ++ x14 from hx.symm]
  | succ d ih =>
    intro x i hxl hd hi
    have g1 : ((i : Nat) : Int) < ((x.length : Nat) : Int) := by omega
    have g2 : (0 : Int) ≤ ((i : Nat) : Int) := by omega
    have next := ih (x.set i ((rd x (i : Int) + 1) % 256)) (i + 1) (by simpa using hxl) (by simp; omega) (by simp; omega)
    have e2 : wrap64 ((i : Int) + 1) = ((i + 1 : Nat) : Int) := w64 (by omega) (by omega)
    refine Ev.step (fun k => ?_) next
    rw [umpirelaw07_FrameKeeps.l1, if_pos g1, if_pos g2, e2, Int.toNat_natCast]
theorem kf_head (m : Int) (wide : Bool) (b : List Int) (h0 : 0 ≤ m) (h1 : m < 4294967296) (hb : Bytes b) (hl : b.length ≤ 3000) (n : Nat) (hn : n ≤ b.length) (d : Nat) : ∀ (x : List Int) (i : Nat), x.length = b.length → x.drop n = b.drop n → n - i = d → i ≤ n →
    Ev (fun k => umpirelaw07_FrameKeeps.l0 k b m wide (n : Int) x (feedv m wide DF.init (b.take n)).done (i : Int)) true := by
  induction d with
  | zero =>
    intro x i hxl hxd hd hi
    have g1 : ¬ ((i : Nat) : Int) < ((n : Nat) : Int) := by omega
    have g2 : (0 : Int) ≤ ((n : Nat) : Int) := by omega
    have g3 : ((n : Nat) : Int) ≤ ((x.length : Nat) : Int) := by omega
    have g4 : (b.take n).length + (b.drop n).length ≤ 1000000000 := by rw [List.length_take, List.length_drop]; omega
    have e := morev_all m wide (b.take n) (b.drop n)
    rw [List.take_append_drop] at e
    refine Ev.step (fun k => by rw [umpirelaw07_FrameKeeps.l0, if_neg g1, if_pos g2, if_pos g3, Int.toNat_natCast, hxd]) ?_
    refine Ev.bind (more_spec_f m wide _ _ h0 h1 (hb.take n) (hb.drop n) g4) ?_
    exact kf_tail m wide b h0 h1 hb hl _ _ e (x.length - n) x n hxl rfl (by omega)
  | succ d ih =>
    intro x i hxl hxd hd hi
    have g1 : ((i : Nat) : Int) < ((n : Nat) : Int) := by omega
    have g2 : (0 : Int) ≤ ((i : Nat) : Int) := by omega
    have g3 : ((i : Nat) : Int) < ((x.length : Nat) : Int) := by omega
    have hlt : i < n := by omega
    have next := ih (x.set i ((rd x (i : Int) + 1) % 256)) (i + 1) (by simpa using hxl) (by rw [List.drop_set, if_pos hlt]; exact hxd) (by omega) (by omega)
    have e2 : wrap64 ((i : Int) + 1) = ((i + 1 : Nat) : Int) := w64 (by omega) (by omega)
    refine Ev.step (fun k => ?_) next
    rw [umpirelaw07_FrameKeeps.l0, if_pos g1, if_pos g2, if_pos g3, e2, Int.toNat_natCast]
theorem kf_tm (a : Int) (m : Nat) (h0 : 0 ≤ a) : ∃ n : Nat, Int.tmod a ((m : Int) + 1) = (n : Int) ∧ n ≤ m := by
  have h1 := Int.tmod_nonneg ((m : Int) + 1) h0
  have h2 := Int.tmod_lt_of_pos a (show (0 : Int) < (m : Int) + 1 by omega)
  exact ⟨(Int.tmod a ((m : Int) + 1)).toNat, by omega, by omega⟩
theorem FrameKeeps : umpirelaw07_FrameKeeps.Pure := by
  intro b a m wide hb1 hb2 hb3 ha hm
  have hb := bytes_wf hb3
  have hw := wf_u16 ha
  obtain ⟨h0, h1⟩ := wf_u32 hm
  apply Ev.rounds
  unfold umpirelaw07_FrameKeeps.f
  refine Ev.bind awake_frame ?_
  simp only [if_true]
  by_cases c : (b.length : Int) > 3000
  · simp only [c, decide_true]
    refine Ev.step (f := fun k => (umpirelaw07_awake.f k).bind fun t => (some t)) (fun k => ?_) (Ev.bind awake_frame (Ev.now _))
    rw [umpirelaw07_FrameKeeps.j0, if_pos rfl]
  · simp only [c, decide_false]
    obtain ⟨n, hn, hnl⟩ := kf_tm a b.length hw.1
    have s1 : b.length ≤ 3000 := by omega
    have s2 : ([] : List Int).length + b.length < 140737488355328 := by rw [List.length_nil, Nat.zero_add]; omega
    have s3 : ¬ ((b.length : Int) + 1 = 0) := by omega
    have s4 : (0 : Int) ≤ ((n : Nat) : Int) := by omega
    have s5 : ((n : Nat) : Int) ≤ ((b.length : Nat) : Int) := by omega
    have s6 : (b.take n).length ≤ 1000000000 := by rw [List.length_take]; omega
    have e1 : wrap64 ((b.length : Int) + 1) = (b.length : Int) + 1 := w64 (by omega) (by omega)
    have e2 : wrap64 a = a := w64 (by omega) (by omega)
    refine Ev.step (f := fun k => (frame_All.f k (b.take n) m wide).bind fun bt => if (strOfNums b).toList = (strOfNums b).toList then umpirelaw07_FrameKeeps.l0 k b m wide (n : Int) b bt.1 0 else none) (fun k => ?_) ?_
    · rw [umpirelaw07_FrameKeeps.j0, if_neg (by decide), e1, if_neg s3, Option.bind_some, if_pos s2, Option.bind_some, List.nil_append, if_neg (by decide), e2, hn, if_pos s4, if_pos s5, Int.toNat_natCast]
    · refine Ev.bind (all_spec_f m wide (b.take n) h0 h1 (hb.take n) s6) ?_
      simp only [if_true]
      exact kf_head m wide b h0 h1 hb s1 n hnl n b 0 rfl rfl (by omega) (by omega)
end Go.Proofs.Ytgnonglkibhnhaa.Pure
