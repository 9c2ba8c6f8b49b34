/- Cut, Behind and Fits of octet's reference, told by lists. -/
import Derived.Test.YtnnehekodoakeaaQBehind
import Derived.Test.YtnnehekodoakeaaQCut
import Derived.Test.YtnnehekodoakeaaQOctet
import Derived.Test.YtnnehekodoakeaaF35
import Derived.Test.YtnnehekodoakeaaF37
namespace Go.Proofs.Ytnnehekodoakeaa.Q
open Go.RowKit Go.Proofs.Ytnnehekodoakeaa.Print Go.Proofs.YtnnehekodoakeaaW.PrintWords Go.Proofs.YtnnehekodoakeaaW.PrintLast Go.Proofs.YtnnehekodoakeaaW.PrintMore
set_option linter.unusedVariables false
set_option linter.unusedSimpArgs false

theorem rcut_loop (x : List Int) (hl : x.length < 140737488355328) (n : Int) (hn : 0 ≤ n) (a : Nat) (d : Nat) : ∀ (i : Nat), x.length - i = d → a ≤ i → i ≤ x.length → ((i - a : Nat) : Int) ≤ n →
    Ev (fun k => umpireref02_Cut.l0 k x n ((x.drop a).take (i - a)) (i : Int)) (cutv x a n) := by
  induction d with
  | zero =>
    intro i hd ha hi hin
    obtain rfl : i = x.length := by omega
    have hlen : ((x.drop a).take (x.length - a)).length = x.length - a := by
      rw [List.length_take, List.length_drop, Nat.min_self]
    refine Ev.step (f := fun _ => some (cutv x a n)) (fun k => ?_) (Ev.now _)
    rw [umpireref02_Cut.l0, if_neg (by omega), hlen]
    unfold cutv
    by_cases c : ((x.length - a : Nat) : Int) < n
    · rw [if_pos c, if_neg (by omega)]
    · rw [if_neg c, if_pos (by omega), show x.length - a = n.toNat by omega, Int.toNat_natCast]
  | succ d ih =>
    intro i hd ha hi hin
    have hlen : ((x.drop a).take (i - a)).length = i - a := by
      rw [List.length_take, List.length_drop]
      omega
    by_cases c : ((i - a : Nat) : Int) < n
    · refine Ev.step (fun k => ?_) (ih (i + 1) (by omega) (by omega) (by omega) (by omega))
      rw [umpireref02_Cut.l0, if_pos (by omega), hlen, if_pos c, if_pos (by omega), if_pos (by omega), w64 (by omega) (by omega)]
      have : (x.drop a).take (i - a) ++ [rd x (i : Int)] = (x.drop a).take (i + 1 - a) := by
        rw [show i + 1 - a = (i - a) + 1 by omega, List.take_succ_eq_append_getElem (by rw [List.length_drop]; omega), List.getElem_drop, rd_get i (by omega)]
        congr 3
        omega
      rw [this]
      rfl
    · refine Ev.step (f := fun _ => some (cutv x a n)) (fun k => ?_) (Ev.now _)
      rw [umpireref02_Cut.l0, if_pos (by omega), hlen, if_neg c]
      unfold cutv
      rw [if_pos (by omega), Int.toNat_natCast, show i - a = n.toNat by omega]
theorem rcut_spec (l : List Int) (at_ n : Int) (hl : l.length < 140737488355328) : Ev (fun k => umpireref02_Cut.f k l at_ n) (cutv l at_ n) := by
  unfold umpireref02_Cut.f
  have no : ∀ b : Bool, b = true → ¬ (0 ≤ at_ ∧ 0 ≤ n ∧ at_ + n ≤ l.length) → Ev (fun k => umpireref02_Cut.j0 k l at_ n b) (cutv l at_ n) := by
    intro b hb h
    refine Ev.step (f := fun _ => some (cutv l at_ n)) (fun k => ?_) (Ev.now _)
    rw [umpireref02_Cut.j0, if_pos hb]
    unfold cutv
    rw [if_neg h]
  by_cases a : at_ < 0
  · simp only [a, if_true]
    exact no _ rfl (by omega)
  · simp only [a, if_false]
    by_cases b : n < 0
    · simp only [b, if_true]
      exact no _ rfl (by omega)
    · simp only [b, if_false]
      by_cases c : at_ > (l.length : Int)
      · exact no _ (by simpa using c) (by omega)
      · refine Ev.step (f := fun k => umpireref02_Cut.l0 k l n [] at_) (fun k => ?_) ?_
        · rw [umpireref02_Cut.j0, if_neg (by simpa using c)]
        · have := rcut_loop l hl n (by omega) at_.toNat (l.length - at_.toNat) at_.toNat (by omega) (by omega) (by omega) (by omega)
          rw [Nat.sub_self, List.take_zero, show ((at_.toNat : Nat) : Int) = at_ by omega] at this
          exact this
theorem rbehind_loop (x : List Int) (hl : x.length < 140737488355328) (at_ : Int) (d : Nat) : ∀ (i : Nat), x.length - i = d → i ≤ x.length →
    Ev (fun k => umpireref02_Behind.l0 k x at_ ((x.take i).drop at_.toNat) (i : Int)) (behindv x at_) := by
  induction d with
  | zero =>
    intro i hd hi
    obtain rfl : i = x.length := by omega
    refine Ev.step (f := fun _ => some (behindv x at_)) (fun k => ?_) (Ev.now _)
    rw [umpireref02_Behind.l0, if_neg (by omega), List.take_length]
    rfl
  | succ d ih =>
    intro i hd hi
    refine Ev.step (fun k => ?_) (ih (i + 1) (by omega) (by omega))
    rw [umpireref02_Behind.l0, if_pos (by omega), w64 (by omega) (by omega)]
    have ht : x.take (i + 1) = x.take i ++ [x[i]'(by omega)] := List.take_succ_eq_append_getElem (by omega)
    by_cases c : (i : Int) ≥ at_
    · rw [if_pos c, if_pos (by omega), if_pos (by rw [List.length_drop, List.length_take]; omega), rd_get i (by omega), ht, List.drop_append, List.length_take]
      rw [show at_.toNat - min i x.length = 0 by omega]
      rfl
    · rw [if_neg c, List.drop_of_length_le (by rw [List.length_take]; omega), List.drop_of_length_le (by rw [List.length_take]; omega)]
      rfl
theorem rbehind_spec (l : List Int) (at_ : Int) (hl : l.length < 140737488355328) : Ev (fun k => umpireref02_Behind.f k l at_) (behindv l at_) := by
  have := rbehind_loop l hl at_ l.length 0 (by omega) (by omega)
  rw [List.take_zero, List.drop_nil] at this
  exact this
theorem cutv_bytes {l : List Int} (h : Bytes l) (a n : Int) : Bytes (cutv l a n).1 := by
  unfold cutv
  split
  · exact (h.drop _).take _
  · exact Bytes.nil
theorem behindv_bytes {l : List Int} (h : Bytes l) (a : Int) : Bytes (behindv l a) := h.drop _
end Go.Proofs.Ytnnehekodoakeaa.Q
