/- The functions of octet's reference, told by lists: Put and Get. -/
import Derived.Test.YtnnehekodoakeaaQBase
import Derived.Test.YtnnehekodoakeaaF31
import Derived.Test.YtnnehekodoakeaaF33
namespace Go.Proofs.Ytnnehekodoakeaa.Q
open Go.RowKit Go.Proofs.Ytnnehekodoakeaa.Print Go.Proofs.YtnnehekodoakeaaW.PrintWords Go.Proofs.YtnnehekodoakeaaW.PrintLast Go.Proofs.YtnnehekodoakeaaW.PrintMore
set_option linter.unusedVariables false
set_option linter.unusedSimpArgs false

theorem leb_drop (n : Int) (i : Nat) : ∀ s : Nat, leb n (i + s) = leb n i ++ leb (n / 256 ^ i) s := by
  induction i generalizing n with
  | zero => intro s; simp [leb]
  | succ i ih =>
    intro s
    rw [show i + 1 + s = (i + s) + 1 by omega, leb, ih (n / 256) s, leb, List.cons_append, Int.pow_succ, Int.mul_comm, Int.ediv_ediv_of_nonneg (by decide)]
theorem rput_loop (n : Int) (h0 : 0 ≤ n) (h1 : n < 18446744073709551616) (s : Nat) (hs : s ≤ 8) (big : Bool) (d : Nat) : ∀ (i : Nat), s - i = d → i ≤ s →
    Ev (fun k => umpireref02_Put.l0 k (n / 256 ^ i) (s : Int) big (putb n i big) (i : Int)) (putb n s big) := by
  induction d with
  | zero =>
    intro i hd hi
    obtain rfl : i = s := by omega
    refine Ev.step (f := fun _ => some (putb n i big)) (fun k => ?_) (Ev.now _)
    rw [umpireref02_Put.l0, if_neg (by omega)]
  | succ d ih =>
    intro i hd hi
    refine Ev.step (f := fun k => umpireref02_Put.l0 k (n / 256 ^ (i + 1)) (s : Int) big (putb n (i + 1) big) ((i + 1 : Nat) : Int)) (fun k => ?_) (ih (i + 1) (by omega) (by omega))
    have hq0 : 0 ≤ n / 256 ^ i := Int.ediv_nonneg h0 (Int.le_of_lt (Int.pow_pos (by decide)))
    have hq1 : n / 256 ^ i ≤ n := Int.ediv_le_self _ h0
    have hdv : IntKind.u64.wrap (Int.tdiv (n / 256 ^ i) 256) = n / 256 ^ (i + 1) := by
      rw [Int.tdiv_eq_ediv_of_nonneg hq0, Int.ediv_ediv_of_nonneg (Int.le_of_lt (Int.pow_pos (by decide))), ← Int.pow_succ, wu64s]
      · exact Int.ediv_nonneg h0 (Int.le_of_lt (Int.pow_pos (by decide)))
      · exact Int.lt_of_le_of_lt (Int.ediv_le_self _ h0) h1
    have hmd : Int.tmod (n / 256 ^ i) 256 % 256 = n / 256 ^ i % 256 := by
      rw [Int.tmod_eq_emod_of_nonneg hq0]
      omega
    have hl : (putb n i big).length = i := putb_length _ _ _
    rw [umpireref02_Put.l0, if_pos (by omega), hdv, hmd, w64 (by omega) (by omega)]
    cases big
    · simp only [Bool.false_eq_true, if_false]
      rw [if_pos (by omega)]
      have : putb n i false ++ [n / 256 ^ i % 256] = putb n (i + 1) false := by
        unfold putb
        simp only [Bool.false_eq_true, if_false]
        rw [leb_snoc]
      rw [this]
      rfl
    · simp only [if_true, Option.bind_some]
      rw [if_pos (by simp [hl]; omega)]
      have : [n / 256 ^ i % 256] ++ putb n i true = putb n (i + 1) true := by
        unfold putb
        simp only [if_true]
        rw [leb_snoc, List.reverse_append]
        rfl
      rw [this]
      rfl
theorem rput_spec (n : Int) (s : Nat) (big : Bool) (h0 : 0 ≤ n) (h1 : n < 18446744073709551616) (hs : s ≤ 8) : Ev (fun k => umpireref02_Put.f k n (s : Int) big) (putb n s big) := by
  have := rput_loop n h0 h1 s hs big s 0 (by omega) (by omega)
  have e : putb n 0 big = [] := by unfold putb; cases big <;> rfl
  rw [e] at this
  simp only [Int.pow_zero, Int.ediv_one] at this
  exact this

theorem rget_loop (x : List Int) (hb : Bytes x) (hl : x.length ≤ 8) (big : Bool) (d : Nat) : ∀ i : Nat, x.length - i = d → i ≤ x.length →
    Ev (fun k => umpireref02_Get.l0 k x big (beval ((if big then x else x.reverse).take i)) (i : Int)) (getv x big) := by
  induction d with
  | zero =>
    intro i hd hi
    obtain rfl : i = x.length := by omega
    refine Ev.step (f := fun _ => some (getv x big)) (fun k => ?_) (Ev.now _)
    rw [umpireref02_Get.l0, if_neg (by omega)]
    unfold getv
    cases big <;> simp [List.take_of_length_le]
  | succ d ih =>
    intro i hd hi
    refine Ev.step (f := fun k => umpireref02_Get.l0 k x big (beval ((if big then x else x.reverse).take (i + 1))) ((i + 1 : Nat) : Int)) (fun k => ?_) (ih (i + 1) (by omega) (by omega))
    have hr : 0 ≤ beval ((if big then x else x.reverse).take i) ∧ beval ((if big then x else x.reverse).take i) < 72057594037927936 := by
      have hbb : Bytes ((if big then x else x.reverse).take i) := by
        cases big
        · exact hb.reverse.take i
        · exact hb.take i
      have := beval_range _ hbb
      have h2 := pow256_le (i := ((if big then x else x.reverse).take i).length) (j := 7) (by rw [List.length_take]; omega)
      rw [show (256 : Int) ^ 7 = 72057594037927936 from by decide] at h2
      exact ⟨this.1, Int.lt_of_lt_of_le this.2 h2⟩
    have st : ∀ v b : Int, 0 ≤ v → v < 72057594037927936 → 0 ≤ b ∧ b < 256 → IntKind.u64.wrap (IntKind.u64.wrap (256 * v) + IntKind.u64.wrap b) = v * 256 + b := by
      intro v b a1 a2 a3
      rw [wu64s (x := 256 * v) (by omega) (by omega), wu64s (x := b) (by omega) (by omega), wu64s (by omega) (by omega)]
      omega
    rw [umpireref02_Get.l0, if_pos (by omega)]
    cases big
    · simp only [Bool.false_eq_true, if_false] at hr ⊢
      rw [w64 (x := (x.length : Int) - 1) (by omega) (by omega), w64 (x := (x.length : Int) - 1 - (i : Int)) (by omega) (by omega), if_pos (by omega), if_pos (by omega)]
      rw [st _ _ hr.1 hr.2 (hb.at _), w64 (by omega) (by omega)]
      rw [List.take_succ_eq_append_getElem (by simp; omega), beval_snoc, List.getElem_reverse]
      rw [show ((x.length : Int) - 1 - (i : Int)) = ((x.length - 1 - i : Nat) : Int) by omega, rd_get (a := x) (x.length - 1 - i) (by omega)]
      rfl
    · simp only [if_true] at hr ⊢
      rw [if_pos (by omega), st _ _ hr.1 hr.2 (hb.at _), w64 (by omega) (by omega)]
      rw [List.take_succ_eq_append_getElem (by omega), beval_snoc, rd_get (a := x) i (by omega)]
      rfl
theorem rget_spec (x : List Int) (hb : Bytes x) (hl : x.length ≤ 8) (big : Bool) : Ev (fun k => umpireref02_Get.f k x big) (getv x big) := by
  show Ev (fun k => umpireref02_Get.l0 k x big 0 0) _
  have := rget_loop x hb hl big x.length 0 (by omega) (by omega)
  simpa [beval] using this
end Go.Proofs.Ytnnehekodoakeaa.Q
