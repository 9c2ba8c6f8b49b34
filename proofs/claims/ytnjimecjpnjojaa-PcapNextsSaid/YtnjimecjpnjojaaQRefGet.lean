/- The functions of octet's reference, told by lists: Put and Get. -/
import Derived.Test.YtnjimecjpnjojaaQBase
import Derived.Test.YtnjimecjpnjojaaF50
namespace Go.Proofs.Ytnjimecjpnjojaa.Q
open Go.RowKit Go.Proofs.Ytnjimecjpnjojaa.Print Go.Proofs.YtnjimecjpnjojaaW.PrintWords Go.Proofs.YtnjimecjpnjojaaW.PrintLast Go.Proofs.YtnjimecjpnjojaaW.PrintMore
set_option linter.unusedVariables false
set_option linter.unusedSimpArgs false

theorem rget_loop (x : List Int) (hb : Bytes x) (hl : x.length ≤ 8) (big : Bool) (d : Nat) : ∀ i : Nat, x.length - i = d → i ≤ x.length →
    Ev (fun k => umpireref02_Get.l0 k x big (beval ((if big then x else x.reverse).take i)) (i : Int)) (getv x big) := by
  induction d with
  | zero =>
    intro i hd hi
    obtain rfl : i = x.length := by omega
    refine Ev.step (f := fun _ => some (getv x big)) (fun k => ?_) (Ev.now _)
    rw [umpireref02_Get.l0, if_neg (by omega)]
    unfold getv
    cases big <;> simp [List.take_of_length_le]
  | succ d ih =>
    intro i hd hi
    refine Ev.step (f := fun k => umpireref02_Get.l0 k x big (beval ((if big then x else x.reverse).take (i + 1))) ((i + 1 : Nat) : Int)) (fun k => ?_) (ih (i + 1) (by omega) (by omega))
    have hr : 0 ≤ beval ((if big then x else x.reverse).take i) ∧ beval ((if big then x else x.reverse).take i) < 72057594037927936 := by
      have hbb : Bytes ((if big then x else x.reverse).take i) := by
        cases big
        · exact hb.reverse.take i
        · exact hb.take i
      have := beval_range _ hbb
      have h2 := pow256_le (i := ((if big then x else x.reverse).take i).length) (j := 7) (by rw [List.length_take]; omega)
      rw [show (256 : Int) ^ 7 = 72057594037927936 from by decide] at h2
      exact ⟨this.1, Int.lt_of_lt_of_le this.2 h2⟩
    have st : ∀ v b : Int, 0 ≤ v → v < 72057594037927936 → 0 ≤ b ∧ b < 256 → IntKind.u64.wrap (IntKind.u64.wrap (256 * v) + IntKind.u64.wrap b) = v * 256 + b := by
      intro v b a1 a2 a3
      rw [wu64s (x := 256 * v) (by omega) (by omega), wu64s (x := b) (by omega) (by omega), wu64s (by omega) (by omega)]
      omega
    rw [umpireref02_Get.l0, if_pos (by omega)]
    cases big
    · simp only [Bool.false_eq_true, if_false] at hr ⊢
      rw [w64 (x := (x.length : Int) - 1) (by omega) (by omega), w64 (x := (x.length : Int) - 1 - (i : Int)) (by omega) (by omega), if_pos (by omega), if_pos (by omega)]
      rw [st _ _ hr.1 hr.2 (hb.at _), w64 (by omega) (by omega)]
      rw [List.take_succ_eq_append_getElem (by simp; omega), beval_snoc, List.getElem_reverse]
      rw [show ((x.length : Int) - 1 - (i : Int)) = ((x.length - 1 - i : Nat) : Int) by omega, rd_get (a := x) (x.length - 1 - i) (by omega)]
      rfl
    · simp only [if_true] at hr ⊢
      rw [if_pos (by omega), st _ _ hr.1 hr.2 (hb.at _), w64 (by omega) (by omega)]
      rw [List.take_succ_eq_append_getElem (by omega), beval_snoc, rd_get (a := x) i (by omega)]
      rfl
theorem rget_spec (x : List Int) (hb : Bytes x) (hl : x.length ≤ 8) (big : Bool) : Ev (fun k => umpireref02_Get.f k x big) (getv x big) := by
  show Ev (fun k => umpireref02_Get.l0 k x big 0 0) _
  have := rget_loop x hb hl big x.length 0 (by omega) (by omega)
  simpa [beval] using this
end Go.Proofs.Ytnjimecjpnjojaa.Q
