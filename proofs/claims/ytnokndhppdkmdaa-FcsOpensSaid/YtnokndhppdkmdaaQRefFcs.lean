/- The functions of fcs's reference, told by registers over naturals. -/
import Derived.Test.YtnokndhppdkmdaaQFcs
import Derived.Test.YtnokndhppdkmdaaF13
import Derived.Test.YtnokndhppdkmdaaF15
namespace Go.Proofs.Ytnokndhppdkmdaa.Q
open Go.RowKit Go.Proofs.Ytnokndhppdkmdaa.Print Go.Proofs.YtnokndhppdkmdaaW.PrintWords Go.Proofs.YtnokndhppdkmdaaW.PrintLast Go.Proofs.YtnokndhppdkmdaaW.PrintMore
set_option linter.unusedVariables false
set_option linter.unusedSimpArgs false

theorem ones_nat (wide : Bool) : umpireref04_ones.f wide = some (allN wide : Int) := by cases wide <;> rfl
theorem rsize_nat (wide : Bool) : umpireref04_Size.f wide = some (sizeN wide : Int) := by cases wide <;> rfl
theorem rbits_loop (p : Nat) (hp : p < 2 ^ 32) (l : List Int) (i : Nat) (r : Nat) (d : Nat) : ∀ (j w : Nat), j + d = 8 → w < 2 ^ 32 →
    Ev (fun k => umpireref04_More.l0 k l (p : Int) ((Sn p d w : Nat) : Int) (wrap64 ((i : Int) + 1))) (r : Int) →
    Ev (fun k => umpireref04_More.l1 k l (p : Int) (w : Int) (i : Int) (j : Int)) (r : Int) := by
  induction d with
  | zero =>
    intro j w hj hw h
    refine Ev.step (fun k => ?_) h
    rw [umpireref04_More.l1, if_neg (by omega)]
    rfl
  | succ d ih =>
    intro j w hj hw h
    rw [Sn_succ] at h
    refine Ev.step (fun k => ?_) (ih (j + 1) (S p w) (by omega) (S_lt hp hw) h)
    rw [umpireref04_More.l1, if_pos (by omega)]
    have e1 : Int.tmod (w : Int) 2 = ((w % 2 : Nat) : Int) := by
      rw [Int.tmod_eq_emod_of_nonneg (by omega)]
      omega
    have e2 : Int.tdiv (w : Int) 2 % 4294967296 = ((w / 2 : Nat) : Int) := by
      rw [Int.tdiv_eq_ediv_of_nonneg (by omega)]
      omega
    rw [e1, e2, w64 (by omega) (by omega)]
    unfold S
    by_cases c : w % 2 = 1
    · rw [if_pos (by omega), if_pos c, bits_u32_xor (by omega) (by omega)]
      rfl
    · rw [if_neg (by omega), if_neg c]
      rfl
theorem rmore_loop (p : Nat) (hp : p < 2 ^ 32) (l : List Int) (hl : Bytes l) (hn : l.length ≤ 100000) (d : Nat) : ∀ (i w : Nat), l.length - i = d → i ≤ l.length → w < 2 ^ 32 →
    Ev (fun k => umpireref04_More.l0 k l (p : Int) (w : Int) (i : Int)) ((moreN p w (l.drop i) : Nat) : Int) := by
  induction d with
  | zero =>
    intro i w hd hi hw
    refine Ev.step (f := fun _ => some ((moreN p w (l.drop i) : Nat) : Int)) (fun k => ?_) (Ev.now _)
    rw [umpireref04_More.l0, if_neg (by omega), List.drop_of_length_le (by omega)]
    rfl
  | succ d ih =>
    intro i w hd hi hw
    have hil : i < l.length := by omega
    have hc := hl _ (List.getElem_mem hil)
    obtain ⟨c, e⟩ := Int.eq_ofNat_of_zero_le hc.1
    have hc2 : c < 256 := by omega
    rw [List.drop_eq_getElem_cons hil, moreN_cons]
    refine Ev.step (fun k => ?_) (rbits_loop p hp l i _ 8 0 (w ^^^ c) (by omega) (Nat.xor_lt_two_pow hw (by omega)) ?_)
    · rw [umpireref04_More.l0, if_pos (by omega), if_pos (by omega), rd_get i hil, e, show ((c : Int) % 4294967296) = (c : Int) by omega, bits_u32_xor (by omega) (by omega)]
      rfl
    · have h := ih (i + 1) (stpN p w l[i]) (by omega) (by omega) (stpN_lt (by decide) hp hw hc)
      rw [w64 (by omega) (by omega)]
      rw [stpN_eq, e, Int.toNat_natCast] at h
      rw [stpN_eq, e, Int.toNat_natCast]
      exact h
theorem rmore_spec (n : Nat) (l : List Int) (wide : Bool) (hn : n < 4294967296) (hl : Bytes l) (hs : l.length ≤ 100000) : Ev (fun k => umpireref04_More.f k (n : Int) l wide) ((moreN (byN wide) (n % 2 ^ wid wide) l : Nat) : Int) := by
  have hm : n % 2 ^ wid wide < 2 ^ 32 := by
    have : n % 2 ^ wid wide ≤ n := Nat.mod_le _ _
    omega
  have h := rmore_loop (byN wide) (byN_32 wide) l hl hs l.length 0 (n % 2 ^ wid wide) (by omega) (by omega) hm
  rw [List.drop_zero] at h
  have hj : Ev (fun k => umpireref04_More.j0 k (n : Int) l wide (byN wide : Int)) ((moreN (byN wide) (n % 2 ^ wid wide) l : Nat) : Int) := by
    refine Ev.step (fun k => ?_) h
    rw [umpireref04_More.j0, ones_nat, Option.bind_some, bits_u32_and hn (allN_32 wide), and_all]
    rfl
  unfold umpireref04_More.f
  cases wide
  · exact hj
  · exact hj
theorem rmore_all (l : List Int) (wide : Bool) (hl : Bytes l) (hs : l.length ≤ 100000) : Ev (fun k => umpireref04_More.f k (allN wide : Int) l wide) ((moreN (byN wide) (allN wide) l : Nat) : Int) := by
  have := rmore_spec (allN wide) l wide (allN_32 wide) hl hs
  rwa [all_mod] at this
theorem rof_spec (l : List Int) (wide : Bool) (hl : Bytes l) (hs : l.length ≤ 100000) : Ev (fun k => umpireref04_Of.f k l wide) ((ofN l wide : Nat) : Int) := by
  unfold umpireref04_Of.f
  simp only [ones_nat, Option.bind_some]
  refine Ev.bind (rmore_all l wide hl hs) ?_
  have h1 := more_lt l wide _ (allN_lt wide) hl
  have h2 := ones_sub h1
  have h3 := allN_32 wide
  have h4 : moreN (byN wide) (allN wide) l ≤ allN wide := by
    unfold allN at h1 ⊢
    omega
  have h5 : (((allN wide : Nat) : Int) - ((moreN (byN wide) (allN wide) l : Nat) : Int)) % 4294967296 = ((ofN l wide : Nat) : Int) := by
    unfold ofN
    unfold allN at h2 h3 h4 ⊢
    rw [← h2]
    omega
  rw [h5]
  exact Ev.now _
end Go.Proofs.Ytnokndhppdkmdaa.Q
