/- The law OctetBack, over numbers and lists: what octet.Put puts octet.Get gets, and the other way round; the other order is the same, turned; no conditions. -/
import Derived.Test.YtnnehekodoakeaaQOctet
import Derived.Test.YtnnehekodoakeaaQAwakeOctet
import Derived.Test.YtnnehekodoakeaaF10
namespace Go.Proofs.Ytnnehekodoakeaa.Pure
open Go.RowKit Go.Proofs.Ytnnehekodoakeaa.Print Go.Proofs.Ytnnehekodoakeaa.Q Go.Proofs.YtnnehekodoakeaaW.PrintWords Go.Proofs.YtnnehekodoakeaaW.PrintLast Go.Proofs.YtnnehekodoakeaaW.PrintMore
set_option linter.unusedVariables false
set_option linter.unusedSimpArgs false

theorem back_end (b : List Int) (big : Bool) (hb : Bytes b) : Ev (fun k => umpirelaw02_OctetBack.j3 k b big) true := by
  refine Ev.step (f := fun k => _) (fun k => by rw [umpirelaw02_OctetBack.j3]) ?_
  refine Ev.bind (get_spec b hb big) ?_
  by_cases c : 1 ≤ b.length ∧ b.length ≤ 8
  · rw [if_pos c]
    simp only [if_true]
    have hr := getv_range b big hb
    have h8 : (256 : Int) ^ b.length ≤ 256 ^ 8 := pow256_le c.2
    rw [pow256_8] at h8
    have hp := put_spec (getv b big) (b.length : Int) big hr.1 (by omega)
    have hf : fits (getv b big) (b.length : Int) = true := by
      unfold fits
      simp only [Bool.and_eq_true, decide_eq_true_eq, Int.toNat_natCast]
      exact ⟨⟨by omega, by omega⟩, hr.2⟩
    rw [hf] at hp
    simp only [if_true, Int.toNat_natCast, putb_getv b big hb] at hp
    refine Ev.bind hp ?_
    simp only [if_true, beq_self_eq_true]
    exact Ev.now _
  · rw [if_neg c]
    simp only [Bool.false_eq_true, if_false]
    by_cases d : (b.length : Int) < 1
    · simp only [d, if_true]
      exact Ev.now _
    · simp only [d, if_false, show decide ((b.length : Int) > 8) = true by simp; omega]
      exact Ev.now _
theorem putb_turn (n : Int) (s : Nat) (big : Bool) : putb n s (!big) = (putb n s big).reverse := by
  unfold putb
  cases big <;> simp
theorem back_loop (n s : Int) (b : List Int) (big : Bool) (hb : Bytes b) (x : List Int) (hx : x.length ≤ 8) (ok : Bool)
    (h : ok = true → Ev (fun k => octet_Get.f k x big) (n, true) ∧ (x.length : Int) = s) (d : Nat) : ∀ i : Nat, x.length - i = d → i ≤ x.length →
    Ev (fun k => umpirelaw02_OctetBack.l0 k n s b big x ok x.reverse (i : Int)) true := by
  induction d with
  | zero =>
    intro i hd hi
    refine Ev.step (f := fun k => _) (fun k => by rw [umpirelaw02_OctetBack.l0, if_neg (by omega)]) ?_
    by_cases c : ok = true
    · obtain ⟨h1, h2⟩ := h c
      simp only [c, if_true]
      refine Ev.bind h1 ?_
      simp only [h2, if_true]
      exact back_end b big hb
    · simp only [c, Bool.false_eq_true, if_false]
      exact back_end b big hb
  | succ d ih =>
    intro i hd hi
    refine Ev.step (fun k => ?_) (ih (i + 1) (by omega) (by omega))
    rw [umpirelaw02_OctetBack.l0, if_pos (by omega), if_pos (by omega), List.length_reverse, w64 (x := (x.length : Int) - 1) (by omega) (by omega), w64 (x := (x.length : Int) - 1 - (i : Int)) (by omega) (by omega), if_pos (by omega), if_pos (by omega)]
    rw [show ((x.length : Int) - 1 - (i : Int)) = ((x.length - 1 - i : Nat) : Int) by omega, rd_get i (by omega), rd_get (a := x.reverse) (x.length - 1 - i) (by rw [List.length_reverse]; omega), List.getElem_reverse]
    rw [if_pos (by congr 1; omega), w64 (by omega) (by omega)]
    rfl
theorem OctetBack : umpirelaw02_OctetBack.Pure := by
  intro n s b big hn hs hl1 hl2 hl3
  obtain ⟨h0, h1⟩ := wf_u64 hn
  have hb := bytes_wf hl3
  apply Ev.rounds
  unfold umpirelaw02_OctetBack.f
  refine Ev.bind awake_octet ?_
  simp only [if_true]
  by_cases a : (b.length : Int) > 1000
  · simp only [a, decide_true]
    refine Ev.step (f := fun k => (umpirelaw02_awake.f k).bind fun t => (some t)) (fun k => ?_) (Ev.bind awake_octet (Ev.now _))
    rw [umpirelaw02_OctetBack.j0, if_pos rfl]
  · simp only [a, decide_false]
    refine Ev.step (fun k => by rw [umpirelaw02_OctetBack.j0, if_neg (by decide)]) ?_
    refine Ev.bind (put_spec n s big h0 h1) ?_
    refine Ev.bind (put_spec n s (!big) h0 h1) ?_
    by_cases c : fits n s = true
    · have hf : 1 ≤ s ∧ s ≤ 8 ∧ n < 256 ^ s.toNat := by
        unfold fits at c
        simp only [Bool.and_eq_true, decide_eq_true_eq] at c
        exact ⟨c.1.1, c.1.2, c.2⟩
      simp only [c, if_true, bne_self_eq_false, Bool.false_eq_true, if_false, putb_length]
      refine Ev.step (f := fun k => _) (fun k => by rw [umpirelaw02_OctetBack.j1, if_neg (by decide)]) ?_
      rw [putb_turn]
      have hg := get_spec (putb n s.toNat big) (putb_bytes n s.toNat big) big
      rw [if_pos (by rw [putb_length]; omega), getv_putb n s.toNat big h0 hf.2.2] at hg
      exact back_loop n s b big hb (putb n s.toNat big) (by rw [putb_length]; omega) true (fun _ => ⟨hg, by rw [putb_length]; omega⟩) _ 0 rfl (by omega)
    · have c' : fits n s = false := by simpa using c
      simp only [c', Bool.false_eq_true, if_false, bne_self_eq_false, List.length_nil]
      refine Ev.step (f := fun k => _) (fun k => by rw [umpirelaw02_OctetBack.j1, if_neg (by decide)]) ?_
      exact back_loop n s b big hb [] (by simp) false (fun h => by cases h) 0 0 rfl (by simp)
end Go.Proofs.Ytnnehekodoakeaa.Pure
