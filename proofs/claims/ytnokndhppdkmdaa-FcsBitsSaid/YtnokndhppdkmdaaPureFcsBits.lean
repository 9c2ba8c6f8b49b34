/- The law FcsBits, over numbers and lists: the check sequence of what three texts make, turned by one another, is the three check sequences, turned by one another; no conditions. -/
import Derived.Test.YtnokndhppdkmdaaQFcs
import Derived.Test.YtnokndhppdkmdaaQAwakeFcs
import Derived.Test.YtnokndhppdkmdaaF7
namespace Go.Proofs.Ytnokndhppdkmdaa.Pure
open Go.RowKit Go.Proofs.Ytnokndhppdkmdaa.Print Go.Proofs.Ytnokndhppdkmdaa.Q Go.Proofs.YtnokndhppdkmdaaW.PrintWords Go.Proofs.YtnokndhppdkmdaaW.PrintLast Go.Proofs.YtnokndhppdkmdaaW.PrintMore
set_option linter.unusedVariables false
set_option linter.unusedSimpArgs false

theorem xor_mul (x y k : Nat) : (x ^^^ y) * 2 ^ k = (x * 2 ^ k) ^^^ (y * 2 ^ k) := by
  apply Nat.eq_of_testBit_eq
  intro i
  rw [Nat.testBit_xor, Nat.testBit_mul_two_pow, Nat.testBit_mul_two_pow, Nat.testBit_mul_two_pow, Nat.testBit_xor]
  cases decide (k ≤ i) <;> simp
theorem xor_four (A X Y Z a : Nat) : (A ^^^ (X ^^^ Y ^^^ Z)) ^^^ a = (A ^^^ X ^^^ a) ^^^ (A ^^^ Y ^^^ a) ^^^ (A ^^^ Z ^^^ a) := by
  apply Nat.eq_of_testBit_eq
  intro i
  simp only [Nat.testBit_xor]
  cases A.testBit i <;> cases X.testBit i <;> cases Y.testBit i <;> cases Z.testBit i <;> cases a.testBit i <;> rfl
theorem xor_six (P Q R x y z : Nat) : (P ^^^ Q ^^^ R) ^^^ (x ^^^ y ^^^ z) = (P ^^^ x) ^^^ (Q ^^^ y) ^^^ (R ^^^ z) := by
  apply Nat.eq_of_testBit_eq
  intro i
  simp only [Nat.testBit_xor]
  cases P.testBit i <;> cases Q.testBit i <;> cases R.testBit i <;> cases x.testBit i <;> cases y.testBit i <;> cases z.testBit i <;> rfl
theorem of_three (d a b c : List Int) (wide : Bool) (n : Nat) (hd : d.length = n) (ha : a.length = n) (hb : b.length = n) (hc : c.length = n) (h : leN d = leN a ^^^ leN b ^^^ leN c) : ofN d wide = ofN a wide ^^^ ofN b wide ^^^ ofN c wide := by
  unfold ofN
  rw [moreN_eq, moreN_eq, moreN_eq, moreN_eq, hd, ha, hb, hc, h, Sn_xor, Sn_xor, Sn_xor, Sn_xor, Sn_xor, Sn_xor]
  exact xor_four _ _ _ _ _
theorem bits_loop (a b c : List Int) (ha : Bytes a) (hb : Bytes b) (hc : Bytes c) (wide : Bool) (n : Nat) (na : n ≤ a.length) (nb : n ≤ b.length) (nc : n ≤ c.length) (hn : n ≤ 2000) (d : Nat) : ∀ (i : Nat) (acc : List Int), n - i = d → i ≤ n → acc.length = i → Bytes acc → leN acc = leN (a.take i) ^^^ leN (b.take i) ^^^ leN (c.take i) →
    Ev (fun k => umpirelaw04_FcsBits.l0 k a b c wide (n : Int) acc (i : Int)) true := by
  induction d with
  | zero =>
    intro i acc hd hi hl hy hq
    obtain rfl : i = n := by omega
    have h3 := of_three acc (a.take i) (b.take i) (c.take i) wide i hl (by rw [List.length_take]; omega) (by rw [List.length_take]; omega) (by rw [List.length_take]; omega) hq
    have x1 := lt32 (of_lt (a.take i) wide (ha.take _))
    have x2 := lt32 (of_lt (b.take i) wide (hb.take _))
    have x3 := lt32 (of_lt (c.take i) wide (hc.take _))
    have x4 : ofN (a.take i) wide ^^^ ofN (b.take i) wide < 2 ^ 32 := Nat.xor_lt_two_pow (by omega) (by omega)
    refine Ev.step (f := fun _ => some true) (fun k => ?_) (Ev.now _)
    rw [umpirelaw04_FcsBits.l0, if_neg (by omega), of_spec acc wide hy, Option.bind_some, if_pos (by omega), if_pos (by omega), Int.toNat_natCast, of_spec _ wide (ha.take _), Option.bind_some, if_pos (by omega), of_spec _ wide (hb.take _), Option.bind_some, if_pos (by omega), of_spec _ wide (hc.take _), Option.bind_some, bits_u32_xor x1 x2, bits_u32_xor (by omega) x3, h3, beq_self_eq_true]
  | succ d ih =>
    intro i acc hd hi hl hy hq
    have i0 : i < a.length := by omega
    have i1 : i < b.length := by omega
    have i2 : i < c.length := by omega
    have c0 := ha _ (List.getElem_mem i0)
    have c1 := hb _ (List.getElem_mem i1)
    have c2 := hc _ (List.getElem_mem i2)
    obtain ⟨x, ex⟩ := Int.eq_ofNat_of_zero_le c0.1
    obtain ⟨y, ey⟩ := Int.eq_ofNat_of_zero_le c1.1
    obtain ⟨z, ez⟩ := Int.eq_ofNat_of_zero_le c2.1
    have hxy : x ^^^ y < 2 ^ 8 := Nat.xor_lt_two_pow (by omega) (by omega)
    have hxyz : x ^^^ y ^^^ z < 2 ^ 8 := Nat.xor_lt_two_pow hxy (by omega)
    have e : Go.bits .xor .u8 (Go.bits .xor .u8 (rd a (i : Int)) (rd b (i : Int))) (rd c (i : Int)) = ((x ^^^ y ^^^ z : Nat) : Int) := by
      rw [rd_get i i0, rd_get i i1, rd_get i i2, ex, ey, ez, bits_u8_xor (by omega) (by omega), bits_u8_xor (by omega) (by omega)]
    have next := ih (i + 1) (acc ++ [((x ^^^ y ^^^ z : Nat) : Int)]) (by omega) (by omega) (by simp; omega) (hy.append (Bytes.cons (by omega) Bytes.nil)) (by
      rw [List.take_succ_eq_append_getElem i0, List.take_succ_eq_append_getElem i1, List.take_succ_eq_append_getElem i2, leN_snoc, leN_snoc, leN_snoc, leN_snoc, ex, ey, ez, hl, List.length_take, List.length_take, List.length_take, Nat.min_eq_left (by omega), Nat.min_eq_left (by omega), Nat.min_eq_left (by omega), hq, Int.toNat_natCast, Int.toNat_natCast, Int.toNat_natCast, Int.toNat_natCast, show (256 : Nat) ^ i = 2 ^ (8 * i) by rw [Nat.pow_mul], xor_mul, xor_mul]
      exact xor_six _ _ _ _ _ _)
    refine Ev.step (fun k => ?_) next
    rw [umpirelaw04_FcsBits.l0, if_pos (by omega), if_pos (by omega), if_pos (by omega), if_pos (by omega), if_pos (by omega), if_pos (by omega), e, w64 (by omega) (by omega)]
    rfl
theorem FcsBits : umpirelaw04_FcsBits.Pure := by
  intro a b c wide ha1 ha2 ha3 hb1 hb2 hb3 hc1 hc2 hc3
  have ha := bytes_wf ha3
  have hb := bytes_wf hb3
  have hc := bytes_wf hc3
  apply Ev.rounds
  unfold umpirelaw04_FcsBits.f
  refine Ev.bind awake_fcs ?_
  simp only [if_true]
  have hm : mn (mn (a.length : Int) (b.length : Int)) (c.length : Int) = ((min (min a.length b.length) c.length : Nat) : Int) := by
    unfold mn
    split <;> split <;> omega
  rw [hm]
  by_cases g : ((min (min a.length b.length) c.length : Nat) : Int) > 2000
  · simp only [g, if_true]
    exact Ev.now _
  · simp only [g, if_false]
    exact bits_loop a b c ha hb hc wide _ (by omega) (by omega) (by omega) (by omega) _ 0 [] (Nat.sub_zero _) (by omega) rfl Bytes.nil (by simp [leN])
end Go.Proofs.Ytnokndhppdkmdaa.Pure
