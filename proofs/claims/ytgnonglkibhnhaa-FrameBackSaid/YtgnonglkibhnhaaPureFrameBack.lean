/- The law FrameBack, over numbers and lists: bodies that are put come back, all of them, in their order, whatever stands ahead, and whatever flags; nothing else is counted; no conditions. -/
import Derived.Test.YtgnonglkibhnhaaQAllFrameBack
import Derived.Test.YtgnonglkibhnhaaF5
namespace Go.Proofs.Ytgnonglkibhnhaa.Pure
open Go.RowKit Go.Proofs.Ytgnonglkibhnhaa.Print Go.Proofs.Ytgnonglkibhnhaa.Q Go.Proofs.YtgnonglkibhnhaaW.PrintWords Go.Proofs.YtgnonglkibhnhaaW.PrintLast Go.Proofs.YtgnonglkibhnhaaW.PrintMore
set_option linter.unusedVariables false
set_option linter.unusedSimpArgs false

section
variable (m : Int) (wide : Bool) (fl : Int) (q : Nat) (l : List (List Int)) (pre : List Int)
theorem fb_flags (hq : Int.tmod (wrap64 fl) 4 = (q : Int)) (hq4 : q ≤ 4) (x13 x14 : Int) (acc : List Int) (ha : acc.length ≤ 100000000) (h : Ev (fun k => umpirelaw07_FrameBack.l1 k l m wide fl (acc ++ List.replicate q 126) (wrap64 (x13 + 1)) (wrap64 (x14 + 1))) true) : ∀ (d j : Nat), q - j = d → j ≤ q →
    Ev (fun k => umpirelaw07_FrameBack.l2 k l m wide fl (acc ++ List.replicate j 126) x13 x14 (j : Int)) true := by
  intro d
  induction d with
  | zero =>
    intro j hd hj
    obtain rfl : j = q := by omega
    refine Ev.step (fun k => ?_) h
    rw [umpirelaw07_FrameBack.l2, hq, if_neg (by omega)]
  | succ d ih =>
    intro j hd hj
    have g1 : ((j : Nat) : Int) < ((q : Nat) : Int) := by omega
    have g2 : (acc ++ List.replicate j (126 : Int)).length < 140737488355328 := by rw [List.length_append, List.length_replicate]; omega
    have next := ih (j + 1) (by omega) (by omega)
    rw [List.replicate_succ', ← List.append_assoc] at next
    have e2 : wrap64 ((j : Int) + 1) = ((j + 1 : Nat) : Int) := w64 (by omega) (by omega)
    refine Ev.step (fun k => ?_) next
    rw [umpirelaw07_FrameBack.l2, hq, if_pos g1, if_pos g2, e2]
theorem fb_loop (h0 : 0 ≤ m) (h1 : m < 4294967296) (hq : Int.tmod (wrap64 fl) 4 = (q : Int)) (hq4 : q ≤ 4) (hn : l.length ≤ 50) (hb : ∀ x ∈ l, Bytes x) (hx : ∀ x ∈ l, x.length ≤ 70000) (hpb : Bytes pre) (hpl : pre.length ≤ 1000) (hp : ∀ c ∈ pre, c ≠ 126) : ∀ (d i : Nat), l.length - i = d → i ≤ l.length → (∀ x ∈ l.take i, 2 ≤ x.length ∧ x.length ≤ 65535) → (streamv m wide q (l.take i)).length ≤ 150000 * i → Bytes (streamv m wide q (l.take i)) →
    Ev (fun k => umpirelaw07_FrameBack.l1 k l m wide fl (pre ++ streamv m wide q (l.take i)) (i : Int) (i : Int)) true := by
  intro d
  induction d with
  | zero =>
    intro i hd hi hok hlen hsb
    obtain rfl : i = l.length := by omega
    rw [List.take_length] at hok hlen hsb ⊢
    have g1 : ¬ ((l.length : Nat) : Int) < ((l.length : Nat) : Int) := by omega
    have g2 : (pre ++ streamv m wide q l).length ≤ 1000000000 := by rw [List.length_append]; omega
    have e := all_back m wide pre hp q l hn (fun x hx => ⟨hb x hx, (hok x hx).1, (hok x hx).2⟩)
    have h := all_spec_f m wide (pre ++ streamv m wide q l) h0 h1 (hpb.append hsb) g2
    rw [e] at h
    refine Ev.step (fun k => by rw [umpirelaw07_FrameBack.l1, if_neg g1]) ?_
    refine Ev.bind h (Ev.bind (same_spec l (by omega)) ?_)
    simp only [if_true, beq_self_eq_true, Bool.and_self]
    exact Ev.now _
  | succ d ih =>
    intro i hd hi hok hlen hsb
    have hlt : i < l.length := by omega
    have hbi := hb l[i] (List.getElem_mem hlt)
    have hxi := hx l[i] (List.getElem_mem hlt)
    have g1 : ((i : Nat) : Int) < ((l.length : Nat) : Int) := by omega
    have g2 : (0 : Int) ≤ ((i : Nat) : Int) := by omega
    have hput := put_spec_f m wide h0 h1 l[i] hbi hxi
    rw [rowv_one] at hput
    refine Ev.step (fun k => by rw [umpirelaw07_FrameBack.l1, if_pos g1, if_pos g2, rdL_get l i hlt]) ?_
    by_cases a : (l[i].length : Int) < 2
    · rw [if_pos a] at hput
      refine Ev.bind hput (Ev.congr (f := fun _ => some true) (fun k => ?_) (Ev.now _))
      rw [if_neg (by decide), if_pos (by rfl), if_pos a]
    · rw [if_neg a] at hput
      by_cases b : (l[i].length : Int) > 65535
      · rw [if_pos b] at hput
        refine Ev.bind hput (Ev.congr (f := fun _ => some true) (fun k => ?_) (Ev.now _))
        rw [if_neg (by decide), if_pos (by rfl), if_neg a, decide_eq_true b]
      · rw [if_neg b] at hput
        have hfl := framev_len m wide l[i] hxi
        have htk : l.take (i + 1) = l.take i ++ [l[i]] := List.take_succ_eq_append_getElem hlt
        have hst : pre ++ streamv m wide q (l.take (i + 1)) = (pre ++ streamv m wide q (l.take i)) ++ 126 :: framev m wide l[i] ++ List.replicate q 126 := by
          rw [htk, streamv_snoc]
          simp [List.append_assoc]
        have hl2 : (streamv m wide q (l.take (i + 1))).length ≤ 150000 * (i + 1) := by
          rw [htk, streamv_snoc, List.length_append, List.length_append, List.length_cons, List.length_replicate]
          omega
        have hfb : Bytes (framev m wide l[i]) := (stuffv_bytes (sealv_bytes hbi wide) m).append (Bytes.cons ⟨by decide, by decide⟩ Bytes.nil)
        have hrep : ∀ q : Nat, Bytes (List.replicate q (126 : Int)) := fun q x hx => by
          rw [List.eq_of_mem_replicate hx]
          exact ⟨by decide, by decide⟩
        have hb2 : Bytes (streamv m wide q (l.take (i + 1))) := by
          rw [htk, streamv_snoc]
          exact (hsb.append (Bytes.cons ⟨by decide, by decide⟩ hfb)).append (hrep q)
        have hok2 : ∀ x ∈ l.take (i + 1), 2 ≤ x.length ∧ x.length ≤ 65535 := by
          intro x hx
          rw [htk] at hx
          rcases List.mem_append.1 hx with hx | hx
          · exact hok x hx
          · rw [List.mem_singleton.1 hx]
            exact ⟨by omega, by omega⟩
        have g3 : (pre ++ streamv m wide q (l.take i)).length + (126 :: framev m wide l[i]).length < 140737488355328 := by rw [List.length_append, List.length_cons]; omega
        have g4 : ((pre ++ streamv m wide q (l.take i)) ++ 126 :: framev m wide l[i]).length ≤ 100000000 := by rw [List.length_append, List.length_append, List.length_cons]; omega
        have next := ih (i + 1) (by omega) (by omega) hok2 hl2 hb2
        rw [hst] at next
        have e2 : wrap64 ((i : Int) + 1) = ((i + 1 : Nat) : Int) := w64 (by omega) (by omega)
        rw [← e2] at next
        have hf := fb_flags m wide fl q l hq hq4 (i : Int) (i : Int) _ g4 next q 0 rfl (Nat.zero_le _)
        rw [List.replicate_zero, List.append_nil] at hf
        refine Ev.bind hput (Ev.congr (fun k => ?_) hf)
        rw [if_pos rfl, if_pos g3]
        rfl
theorem fb_ahead (a : List Int) (hal : a.length ≤ 1000) (h : Ev (fun k => umpirelaw07_FrameBack.l1 k l m wide fl (a.filter fun c => !decide (c = 126)) 0 0) true) : ∀ (d i : Nat), a.length - i = d → i ≤ a.length →
    Ev (fun k => umpirelaw07_FrameBack.l0 k l m wide a fl ((a.take i).filter fun c => !decide (c = 126)) (i : Int)) true := by
  intro d
  induction d with
  | zero =>
    intro i hd hi
    obtain rfl : i = a.length := by omega
    rw [List.take_length]
    refine Ev.step (fun k => ?_) h
    rw [umpirelaw07_FrameBack.l0, if_neg (by omega)]
  | succ d ih =>
    intro i hd hi
    have hlt : i < a.length := by omega
    have g1 : ((i : Nat) : Int) < ((a.length : Nat) : Int) := by omega
    have g2 : (0 : Int) ≤ ((i : Nat) : Int) := by omega
    have g3 : ((a.take i).filter fun c => !decide (c = 126)).length < 140737488355328 := by
      have h1 := List.length_filter_le (fun c : Int => !decide (c = 126)) (a.take i)
      rw [List.length_take] at h1
      omega
    have next := ih (i + 1) (by omega) (by omega)
    rw [List.take_succ_eq_append_getElem hlt, List.filter_append] at next
    have e2 : wrap64 ((i : Int) + 1) = ((i + 1 : Nat) : Int) := w64 (by omega) (by omega)
    by_cases c : a[i] = 126
    · rw [show ([a[i]].filter fun c => !decide (c = 126)) = [] from by simp [c], List.append_nil] at next
      refine Ev.step (fun k => ?_) next
      rw [umpirelaw07_FrameBack.l0, if_pos g1, if_pos g2, rd_get i hlt, if_pos c, e2]
    · rw [show ([a[i]].filter fun c => !decide (c = 126)) = [a[i]] from by simp [c]] at next
      refine Ev.step (fun k => ?_) next
      rw [umpirelaw07_FrameBack.l0, if_pos g1, if_pos g2, rd_get i hlt, if_neg c, if_pos g3, e2]
end
theorem FrameBack : ∀ (a0 : List (List Int)) (a1 : Int) (a2 : Bool) (a3 : List Int) (a4 : Int), (fun l : List (List Int) => l.length * 24 ≤ 140737488351232 ∧ ∀ a ∈ l, (fun l : List Int => l.length * 1 ≤ 140737488351232 ∧ ∀ a ∈ l, (fun a : Int => (Lit.int .u8 a).wf = true) a) a) a0 → (fun a : Int => (Lit.int .u32 a).wf = true) a1 → (fun l : List Int => l.length * 1 ≤ 140737488351232 ∧ ∀ a ∈ l, (fun a : Int => (Lit.int .u8 a).wf = true) a) a3 → (fun a : Int => (Lit.int .u8 a).wf = true) a4 → ∃ k, umpirelaw07_FrameBack.f k a0 a1 a2 a3 a4 = some true := by
  intro l m wide ah fl hl hm hah hfl
  obtain ⟨h0, h1⟩ := wf_u32 hm
  have hf := wf_u8 hfl
  have hb : ∀ x ∈ l, Bytes x := fun x hx => bytes_wf (hl.2 x hx).2
  have hab : Bytes ah := bytes_wf hah.2
  obtain ⟨b, hfew, hc⟩ := few_spec l
  have away : Ev (fun k => umpirelaw07_FrameBack.j0 k l m wide ah fl true) true := by
    refine Ev.step (f := fun k => (umpirelaw07_awake.f k).bind fun t => (some t)) (fun k => ?_) (Ev.bind awake_frame (Ev.now _))
    rw [umpirelaw07_FrameBack.j0, if_pos rfl]
  apply Ev.rounds
  unfold umpirelaw07_FrameBack.f
  refine Ev.bind awake_frame ?_
  simp only [if_true]
  refine Ev.bind hfew ?_
  cases b with
  | false => exact away
  | true =>
    obtain ⟨hn, hx⟩ := hc rfl
    simp only [if_true]
    by_cases a : (ah.length : Int) > 1000
    · simp only [a, decide_true]
      exact away
    · simp only [a, decide_false]
      obtain ⟨q, hq, hq4⟩ : ∃ q : Nat, Int.tmod (wrap64 fl) 4 = (q : Int) ∧ q ≤ 4 := by
        rw [w64 (by omega) (by omega)]
        have h2 := Int.tmod_nonneg 4 hf.1
        have h3 := Int.tmod_lt_of_pos fl (show (0 : Int) < 4 by decide)
        exact ⟨(Int.tmod fl 4).toNat, by omega, by omega⟩
      have hal : ah.length ≤ 1000 := by omega
      have hpb : Bytes (ah.filter fun c => !decide (c = 126)) := fun x hx => hab x ((List.mem_filter.1 hx).1)
      have hpl : (ah.filter fun c => !decide (c = 126)).length ≤ 1000 := Nat.le_trans (List.length_filter_le _ _) hal
      have hp : ∀ c ∈ (ah.filter fun c => !decide (c = 126)), c ≠ 126 := by
        intro c hc
        have := (List.mem_filter.1 hc).2
        simpa using this
      have h := fb_loop m wide fl q l (ah.filter fun c => !decide (c = 126)) h0 h1 hq hq4 hn hb hx hpb hpl hp l.length 0 rfl (Nat.zero_le _) (by simp) (by simp [streamv]) (by rw [List.take_zero, streamv]; exact Bytes.nil)
      rw [List.take_zero, streamv, List.append_nil] at h
      refine Ev.step (fun k => by rw [umpirelaw07_FrameBack.j0, if_neg (by decide)]) ?_
      exact fb_ahead m wide fl l ah hal h ah.length 0 rfl (Nat.zero_le _)
end Go.Proofs.Ytgnonglkibhnhaa.Pure
