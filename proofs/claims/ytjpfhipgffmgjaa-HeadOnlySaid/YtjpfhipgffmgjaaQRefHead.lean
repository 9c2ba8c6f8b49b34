/- The functions of head's reference, told by lists. -/
import Derived.Test.YtjpfhipgffmgjaaQHead
import Derived.Test.YtjpfhipgffmgjaaF22
import Derived.Test.YtjpfhipgffmgjaaF24
import Derived.Test.YtjpfhipgffmgjaaF26
namespace Go.Proofs.Ytjpfhipgffmgjaa.Q
open Go.RowKit Go.Proofs.Ytjpfhipgffmgjaa.Print Go.Proofs.YtjpfhipgffmgjaaW.PrintWords Go.Proofs.YtjpfhipgffmgjaaW.PrintLast Go.Proofs.YtjpfhipgffmgjaaW.PrintMore
set_option linter.unusedVariables false
set_option linter.unusedSimpArgs false

theorem rmay_spec (p : Int) : umpireref08_May.f p = some (mayv p) := by
  unfold umpireref08_May.f mayv
  by_cases a : p > 0
  · rw [if_pos a]
    by_cases b : p < 65536
    · rw [if_pos b, Int.tmod_eq_emod_of_nonneg (by omega), Int.tdiv_eq_ediv_of_nonneg (by omega), w64 (by omega) (by omega), Int.tmod_eq_emod_of_nonneg (by omega)]
      by_cases c : p % 2 = 1
      · rw [if_pos c]
        by_cases d : p / 256 % 2 = 0
        · rw [if_pos d]
          congr 1
          rw [Bool.eq_iff_iff, bne_iff_ne, decide_eq_true_iff]
          exact ⟨fun h => ⟨a, by omega, c, d, h⟩, fun h => h.2.2.2.2⟩
        · rw [if_neg d]
          simp [d]
      · rw [if_neg c]
        simp [c]
    · rw [if_neg b, show decide (1 ≤ p ∧ p ≤ 65535 ∧ p % 2 = 1 ∧ p / 256 % 2 = 0 ∧ p ≠ 255) = false by apply decide_eq_false; omega]
  · rw [if_neg a, show decide (1 ≤ p ∧ p ≤ 65535 ∧ p % 2 = 1 ∧ p / 256 % 2 = 0 ∧ p ≠ 255) = false by apply decide_eq_false; omega]
theorem mayv_range {p : Int} (h : mayv p = true) : 1 ≤ p ∧ p ≤ 65535 ∧ p % 2 = 1 ∧ p / 256 % 2 = 0 ∧ p ≠ 255 := of_decide_eq_true h
theorem rhput_spec (p : Int) (full short : Bool) (h : mayv p = true) : umpireref08_Put.f p full short = some (headv p full short) := by
  have hr := mayv_range h
  unfold umpireref08_Put.f headv
  rw [Int.tmod_eq_emod_of_nonneg (by omega), Int.tdiv_eq_ediv_of_nonneg (by omega), w64 (by omega) (by omega), show p % 256 % 256 = p % 256 by omega]
  cases full <;> cases short <;> simp
  all_goals (split <;> simp)
theorem rread_j1 (l rest : List Int) (at_ : Nat) (hr : l.drop at_ = rest) (hat : at_ ≤ 2) (hb : Bytes rest) : Ev (fun k => umpireref08_Read.j1 k l (at_ : Int) 0 0) (protoAt rest at_) := by
  refine Ev.step (f := fun _ => some (protoAt rest at_)) (fun k => ?_) (Ev.now _)
  rw [umpireref08_Read.j1]
  have hlen : rest.length = l.length - at_ := by rw [← hr, List.length_drop]
  have at_i : ∀ i : Nat, i < rest.length → rd l ((at_ + i : Nat) : Int) = rest.getD i 0 := by
    intro i hi
    rw [rd_get (at_ + i) (by omega), List.getD_eq_getElem?_getD, List.getElem?_eq_getElem hi]
    simp only [← hr, List.getElem_drop, Option.getD_some]
  unfold protoAt
  cases rest with
  | nil =>
    simp only [List.length_nil] at hlen
    rw [if_pos (by omega)]
  | cons a t =>
    simp only [List.length_cons] at hlen
    have ha := hb a (by simp)
    have h0 : rd l (at_ : Int) = a := by simpa using at_i 0 (by simp)
    rw [if_neg (by omega), if_pos (by omega), if_pos (by omega), h0, w64 (x := a) (by omega) (by omega), Int.tmod_eq_emod_of_nonneg ha.1]
    by_cases o : a % 2 = 1
    · simp only [o, if_true]
      by_cases f : a = 255
      · simp [f]
      · simp only [f, if_false]
        rw [w64 (by omega) (by omega)]
    · simp only [o, if_false]
      rw [w64 (x := (at_ : Int) + 1) (by omega) (by omega)]
      cases t with
      | nil =>
        simp only [List.length_nil] at hlen
        rw [if_pos (by omega)]
      | cons b r =>
        simp only [List.length_cons] at hlen
        have hbb := hb b (by simp)
        have h1 : rd l ((at_ : Int) + 1) = b := by simpa using at_i 1 (by simp)
        rw [if_neg (by omega), if_pos (by omega), if_pos (by omega), h1, w64 (x := b) (by omega) (by omega), Int.tmod_eq_emod_of_nonneg hbb.1]
        by_cases e : b % 2 = 0
        · simp [e]
        · simp only [e, if_false, false_or]
          rw [w64 (x := 256 * a) (by omega) (by omega), w64 (x := 256 * a + b) (by omega) (by omega), w64 (by omega) (by omega)]
          by_cases z : a = 0
          · by_cases y : b = 255
            · simp [z, y]
            · simp [z, y]
          · simp [z]
theorem rread_spec (l : List Int) (hb : Bytes l) : Ev (fun k => umpireref08_Read.f k l) (readv l) := by
  unfold umpireref08_Read.f readv
  cases l with
  | nil =>
    simp only [List.length_nil, show ¬ (((0 : Nat) : Int) > 0) by decide, if_false]
    refine Ev.step (f := fun k => umpireref08_Read.j1 k [] 0 0 0) (fun k => by rw [umpireref08_Read.j0, if_neg (by decide)]) ?_
    exact rread_j1 [] [] 0 rfl (by decide) Bytes.nil
  | cons a t =>
    simp only [show ((a :: t).length : Int) > 0 by simp <;> omega, show (0 : Int) < ((a :: t).length : Int) by simp <;> omega, if_true, rd0]
    by_cases c : a = 255
    · subst c
      simp only [beq_self_eq_true, if_true]
      cases t with
      | nil =>
        refine Ev.step (f := fun _ => some (0, 0, 2)) (fun k => ?_) (Ev.now _)
        rw [umpireref08_Read.j0, if_pos rfl, if_pos (by simp <;> omega)]
      | cons b r =>
        by_cases d : b = 3
        · subst d
          simp only [if_true]
          refine Ev.step (f := fun k => umpireref08_Read.j1 k (255 :: 3 :: r) 2 0 0) (fun k => ?_) ?_
          · rw [umpireref08_Read.j0, if_pos rfl, if_neg (by simp <;> omega), if_pos (by simp <;> omega), rd1, if_pos rfl]
          · exact rread_j1 (255 :: 3 :: r) r 2 rfl (by decide) (fun x hx => hb x (by simp [hx]))
        · simp only [d, if_false]
          refine Ev.step (f := fun _ => some (0, 0, 3)) (fun k => ?_) (Ev.now _)
          rw [umpireref08_Read.j0, if_pos rfl, if_neg (by simp <;> omega), if_pos (by simp <;> omega), rd1, if_neg d]
    · have : (a == 255) = false := by simpa using c
      simp only [this, c, if_false]
      refine Ev.step (f := fun k => umpireref08_Read.j1 k (a :: t) 0 0 0) (fun k => by rw [umpireref08_Read.j0, if_neg (by decide)]) ?_
      exact rread_j1 (a :: t) (a :: t) 0 rfl (by decide) hb
end Go.Proofs.Ytjpfhipgffmgjaa.Q
