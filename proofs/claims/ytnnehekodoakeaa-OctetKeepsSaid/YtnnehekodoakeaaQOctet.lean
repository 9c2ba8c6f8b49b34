/- The functions of octet and of its reference, told by lists. -/
import Derived.Test.YtnnehekodoakeaaQBase
import Derived.Test.YtnnehekodoakeaaF28
import Derived.Test.YtnnehekodoakeaaF32
namespace Go.Proofs.Ytnnehekodoakeaa.Q
open Go.RowKit Go.Proofs.Ytnnehekodoakeaa.Print Go.Proofs.YtnnehekodoakeaaW.PrintWords Go.Proofs.YtnnehekodoakeaaW.PrintLast Go.Proofs.YtnnehekodoakeaaW.PrintMore

set_option linter.unusedVariables false
set_option linter.unusedSimpArgs false
theorem div_zero {n p : Int} (h0 : 0 ≤ n) (hp : 0 < p) : n / p = 0 ↔ n < p := by
  constructor
  · intro h
    have h1 := Int.mul_ediv_add_emod n p
    have h2 := Int.emod_lt_of_pos n hp
    rw [h, Int.mul_zero] at h1
    omega
  · intro h
    exact Int.ediv_eq_zero_of_lt h0 h

/-! ### Fits -/
def fits (n : Int) (s : Int) : Bool := decide (1 ≤ s) && decide (s ≤ 8) && decide (n < 256 ^ s.toNat)
theorem fits_spec (n s : Int) (h0 : 0 ≤ n) (h1 : n < 18446744073709551616) : octet_Fits.f n s = some (fits n s) := by
  unfold octet_Fits.f fits
  by_cases a : 1 ≤ s
  · rw [if_pos a]
    by_cases b : s ≤ 8
    · rw [if_pos b]
      by_cases c : s = 8
      · subst c
        rw [if_pos rfl]
        simp [pow256_8, h1]
      · rw [if_neg c, w64 (by omega) (by omega), if_pos (by omega)]
        have hs : shr .u64 n (8 * s) = n / 256 ^ s.toNat := by
          unfold shr
          rw [Nat.min_eq_left (by simp [IntKind.bits]; omega), pow256_2, show (8 * s).toNat = 8 * s.toNat by omega]
        rw [hs]
        have hp : (0 : Int) < 256 ^ s.toNat := Int.pow_pos (by decide)
        have : (n / 256 ^ s.toNat == 0) = decide (n < 256 ^ s.toNat) := by
          rw [Bool.eq_iff_iff, beq_iff_eq, decide_eq_true_iff]
          exact div_zero h0 hp
        simp [this, a, b]
    · rw [if_neg b]
      simp [b]
  · rw [if_neg a]
    simp [a]

/-! ### Reverse -/
theorem rev_loop (x : List Int) (hm : x.length ≤ 4611686018427387904) (d : Nat) : ∀ (y : List Int) (i : Nat) (k : Nat), y.length = x.length → 2 * i ≤ x.length → x.length + 1 - 2 * i ≤ d → d < k →
    (∀ p, (hp : p < x.length) → (hq : p < y.length) → y[p] = if p < i ∨ x.length - i ≤ p then x[x.length - 1 - p]'(by omega) else x[p]) →
    slices_Reverse_byte_byte.l0 k y (i : Int) ((x.length : Int) - 1 - i) = some x.reverse := by
  induction d with
  | zero => intro y i k hl hi hd hk h; omega
  | succ d ih =>
    intro y i k hl hi hd hk h
    obtain ⟨k, rfl, hk⟩ := succ_of hk
    rw [slices_Reverse_byte_byte.l0]
    by_cases c : (i : Int) < (x.length : Int) - 1 - i
    · rw [if_pos c, if_pos (by omega), if_pos (by omega), if_pos (by omega), if_pos (by omega)]
      rw [show ((x.length : Int) - 1 - (i : Int)) = ((x.length - 1 - i : Nat) : Int) by omega]
      rw [rd_get (a := y) (x.length - 1 - i) (by omega), rd_get (a := y) i (by omega), Int.toNat_natCast, Int.toNat_natCast]
      rw [w64 (by omega) (by omega), w64 (by omega) (by omega)]
      have := ih ((y.set i (y[x.length - 1 - i]'(by omega))).set (x.length - 1 - i) (y[i]'(by omega))) (i + 1) k (by simp [hl]) (by omega) (by omega) (by omega) (by
        intro p hp hq
        have hi1 := h i (by omega) (by omega)
        have hj1 := h (x.length - 1 - i) (by omega) (by omega)
        have hp1 := h p hp (by omega)
        simp only [List.getElem_set]
        by_cases e1 : x.length - 1 - i = p
        · subst e1
          simp only [if_true]
          rw [hi1, if_neg (by omega), if_pos (by omega)]
          congr 1
          omega
        · rw [if_neg e1]
          by_cases e2 : i = p
          · subst e2
            simp only [if_true]
            rw [hj1, if_neg (by omega), if_pos (by omega)]
          · rw [if_neg e2, hp1]
            by_cases e3 : p < i ∨ x.length - i ≤ p
            · rw [if_pos e3, if_pos (by omega)]
            · rw [if_neg e3, if_neg (by omega)])
      rw [show ((i : Int) + 1) = ((i + 1 : Nat) : Int) by omega, show (((x.length - 1 - i : Nat) : Int) - 1) = (x.length : Int) - 1 - ((i + 1 : Nat) : Int) by omega]
      exact this
    · rw [if_neg c]
      congr 1
      apply List.ext_getElem
      · simp [hl]
      · intro p hp hq
        simp only [List.length_reverse] at hq
        rw [List.getElem_reverse, h p (by omega) hp]
        by_cases e : p < i ∨ x.length - i ≤ p
        · rw [if_pos e]
        · rw [if_neg e]
          congr 1
          omega
theorem reverse_spec (x : List Int) (hm : x.length ≤ 4611686018427387904) : Ev (fun k => slices_Reverse_byte_byte.f k x) x.reverse := by
  refine ⟨x.length + 3, fun k hk => ?_⟩
  show slices_Reverse_byte_byte.f k x = _
  unfold slices_Reverse_byte_byte.f
  rw [w64 (by omega) (by omega)]
  have := rev_loop x hm (x.length + 2) x 0 k rfl (by omega) (by omega) (by omega) (by
    intro p hp hq
    rw [if_neg (by omega)])
  simpa using this

/-! ### Put -/
theorem put_loop (n : Int) (h0 : 0 ≤ n) (s : Nat) (hs : s ≤ 8) (big : Bool) (d : Nat) : ∀ (i : Nat) (y : List Int), s - i = d → i ≤ s → y = leb n i ++ List.replicate (s - i) 0 →
    Ev (fun k => octet_Put.l0 k n big y (s : Int) (i : Int)) (putb n s big, true) := by
  induction d with
  | zero =>
    intro i y hd hi hy
    obtain rfl : i = s := by omega
    rw [Nat.sub_self, List.replicate_zero, List.append_nil] at hy
    subst hy
    refine Ev.step (f := fun k => if big = true then ((slices_Reverse_byte_byte.f k (leb n i)).bind fun t => (some (t, true))) else (some (leb n i, true))) (fun k => ?_) ?_
    · rw [octet_Put.l0, if_neg (by omega)]
    · unfold putb
      cases big
      · exact Ev.const rfl
      · simp only [if_true]
        exact Ev.bind (reverse_spec _ (by rw [leb_length]; omega)) (Ev.now _)
  | succ d ih =>
    intro i y hd hi hy
    have hlen : y.length = s := by
      subst hy
      simp [leb_length]
      omega
    refine Ev.step (f := fun k => octet_Put.l0 k n big (leb n (i + 1) ++ List.replicate (s - (i + 1)) 0) (s : Int) ((i + 1 : Nat) : Int)) (fun k => ?_) (ih (i + 1) _ (by omega) (by omega) rfl)
    rw [octet_Put.l0, if_pos (by omega), w64 (by omega) (by omega), if_pos (by omega), if_pos (by omega), if_pos (by omega), w64 (by omega) (by omega), Int.toNat_natCast]
    have hsh : shr .u64 n (8 * (i : Int)) = n / 256 ^ i := by
      unfold shr
      rw [Nat.min_eq_left (by simp [IntKind.bits]; omega), pow256_2, show (8 * (i : Int)).toNat = 8 * i by omega]
    have : y.set i (shr .u64 n (8 * (i : Int)) % 256) = leb n (i + 1) ++ List.replicate (s - (i + 1)) 0 := by
      rw [hsh, hy, leb_snoc, show s - i = (s - (i + 1)) + 1 by omega, List.replicate_succ, List.set_append_right _ _ (by rw [leb_length]; exact Nat.le_refl _)]
      simp [leb_length]
    rw [this]
    rfl
theorem put_spec (n s : Int) (big : Bool) (h0 : 0 ≤ n) (h1 : n < 18446744073709551616) : Ev (fun k => octet_Put.f k n s big) (if fits n s then (putb n s.toNat big, true) else ([], false)) := by
  unfold octet_Put.f
  rw [fits_spec n s h0 h1]
  simp only [Option.bind_some]
  by_cases c : fits n s = true
  · simp only [c, if_true]
    have hf : 1 ≤ s ∧ s ≤ 8 := by
      unfold fits at c
      simp only [Bool.and_eq_true, decide_eq_true_eq] at c
      exact c.1
    simp only [show (0 : Int) ≤ s by omega, show s.toNat ≤ 281474976710656 by omega, if_true]
    have := put_loop n h0 s.toNat (by omega) big s.toNat 0 (List.replicate s.toNat 0) (by omega) (by omega) (by simp [leb])
    rw [show ((s.toNat : Nat) : Int) = s by omega] at this
    exact this
  · simp only [c, if_false]
    exact Ev.const rfl

/-! ### Get -/
theorem or_step (v b : Int) (h0 : 0 ≤ v) (h1 : v < 72057594037927936) (hb : 0 ≤ b ∧ b < 256) : Go.bits .or .u64 (IntKind.u64.wrap (v * 256)) (IntKind.u64.wrap b) = v * 256 + b := by
  rw [wu64s (by omega) (by omega), wu64s (by omega) (by omega)]
  exact u64_or_low (i := 8) (by omega) (by omega) (by omega) (by omega) (by omega) (by omega)
theorem get_loop (x : List Int) (hb : Bytes x) (hl : x.length ≤ 8) (big : Bool) (d : Nat) : ∀ i : Nat, x.length - i = d → i ≤ x.length →
    Ev (fun k => octet_Get.l0 k x big (beval ((if big then x else x.reverse).take i)) (x.length : Int) (i : Int)) (getv x big, true) := by
  induction d with
  | zero =>
    intro i hd hi
    obtain rfl : i = x.length := by omega
    refine Ev.step (f := fun _ => some (getv x big, true)) (fun k => ?_) (Ev.now _)
    rw [octet_Get.l0, if_neg (by omega)]
    unfold getv
    cases big <;> simp [List.take_of_length_le]
  | succ d ih =>
    intro i hd hi
    refine Ev.step (f := fun k => octet_Get.l0 k x big (beval ((if big then x else x.reverse).take (i + 1))) (x.length : Int) ((i + 1 : Nat) : Int)) (fun k => ?_) (ih (i + 1) (by omega) (by omega))
    have hr : 0 ≤ beval ((if big then x else x.reverse).take i) ∧ beval ((if big then x else x.reverse).take i) < 72057594037927936 := by
      have hbb : Bytes ((if big then x else x.reverse).take i) := by
        cases big
        · exact hb.reverse.take i
        · exact hb.take i
      have := beval_range _ hbb
      have h2 := pow256_le (i := ((if big then x else x.reverse).take i).length) (j := 7) (by rw [List.length_take]; omega)
      rw [show (256 : Int) ^ 7 = 72057594037927936 from by decide] at h2
      exact ⟨this.1, Int.lt_of_lt_of_le this.2 h2⟩
    rw [octet_Get.l0, if_pos (by omega), w64 (x := (x.length : Int) - 1) (by omega) (by omega), w64 (x := (x.length : Int) - 1 - (i : Int)) (by omega) (by omega), if_pos (by omega), if_pos (by omega)]
    cases big
    · simp only [Bool.false_eq_true, if_false] at hr ⊢
      rw [or_step _ _ hr.1 hr.2 (hb.at _), w64 (by omega) (by omega)]
      rw [List.take_succ_eq_append_getElem (by simp; omega), beval_snoc, List.getElem_reverse]
      rw [show ((x.length : Int) - 1 - (i : Int)) = ((x.length - 1 - i : Nat) : Int) by omega, rd_get (a := x) (x.length - 1 - i) (by omega)]
      rfl
    · simp only [if_true] at hr ⊢
      rw [if_pos (by omega), if_pos (by omega), or_step _ _ hr.1 hr.2 (hb.at _), w64 (by omega) (by omega)]
      rw [List.take_succ_eq_append_getElem (by omega), beval_snoc, rd_get (a := x) i (by omega)]
      rfl
theorem get_spec (x : List Int) (hb : Bytes x) (big : Bool) : Ev (fun k => octet_Get.f k x big) (if 1 ≤ x.length ∧ x.length ≤ 8 then (getv x big, true) else (0, false)) := by
  unfold octet_Get.f
  by_cases a : (x.length : Int) < 1
  · simp only [a, if_true]
    rw [if_neg (by omega)]
    refine Ev.step (f := fun _ => some (0, false)) (fun k => ?_) (Ev.now _)
    rw [octet_Get.j0, if_pos rfl]
  · simp only [a, if_false]
    by_cases b : (x.length : Int) > 8
    · rw [if_neg (by omega)]
      refine Ev.step (f := fun _ => some (0, false)) (fun k => ?_) (Ev.now _)
      rw [octet_Get.j0, if_pos (by simpa using b)]
    · rw [if_pos (by omega)]
      refine Ev.step (f := fun k => octet_Get.l0 k x big 0 (x.length : Int) 0) (fun k => ?_) ?_
      · rw [octet_Get.j0, if_neg (by simpa using b)]
      · have := get_loop x hb (by omega) big x.length 0 (by omega) (by omega)
        simpa [beval] using this
end Go.Proofs.Ytnnehekodoakeaa.Q
