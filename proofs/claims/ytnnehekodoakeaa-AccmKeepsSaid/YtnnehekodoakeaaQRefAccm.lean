/- The functions of accm's reference, told by bits. -/
import Derived.Test.YtnnehekodoakeaaQAccm
import Derived.Test.YtnnehekodoakeaaQRefOct
import Derived.Test.YtnnehekodoakeaaF18
import Derived.Test.YtnnehekodoakeaaF20
import Derived.Test.YtnnehekodoakeaaF22
import Derived.Test.YtnnehekodoakeaaF24
import Derived.Test.YtnnehekodoakeaaF26
namespace Go.Proofs.Ytnnehekodoakeaa.Q
open Go.RowKit Go.Proofs.Ytnnehekodoakeaa.Print Go.Proofs.YtnnehekodoakeaaW.PrintWords Go.Proofs.YtnnehekodoakeaaW.PrintLast Go.Proofs.YtnnehekodoakeaaW.PrintMore
set_option linter.unusedVariables false
set_option linter.unusedSimpArgs false

theorem rhas_loop (m : Int) (h0 : 0 ≤ m) (h1 : m < 4294967296) (c : Nat) (hc : c < 32) (d : Nat) : ∀ i : Nat, c - i = d → i ≤ c →
    Ev (fun k => umpireref05_Has.l0 k (m / 2 ^ i) (c : Int) (i : Int)) (m.toNat.testBit c) := by
  induction d with
  | zero =>
    intro i hd hi
    obtain rfl : i = c := by omega
    have hq0 : 0 ≤ m / 2 ^ i := Int.ediv_nonneg h0 (Int.le_of_lt (Int.pow_pos (by decide)))
    refine Ev.step (f := fun _ => some (m.toNat.testBit i)) (fun k => ?_) (Ev.now _)
    rw [umpireref05_Has.l0, if_neg (by omega), Int.tmod_eq_emod_of_nonneg hq0, bit_of m h0]
  | succ d ih =>
    intro i hd hi
    have hq0 : 0 ≤ m / 2 ^ i := Int.ediv_nonneg h0 (Int.le_of_lt (Int.pow_pos (by decide)))
    have hq1 : m / 2 ^ i ≤ m := Int.ediv_le_self _ h0
    refine Ev.step (f := fun k => umpireref05_Has.l0 k (m / 2 ^ (i + 1)) (c : Int) ((i + 1 : Nat) : Int)) (fun k => ?_) (ih (i + 1) (by omega) (by omega))
    rw [umpireref05_Has.l0, if_pos (by omega), Int.tdiv_eq_ediv_of_nonneg hq0, Int.emod_eq_of_lt (by omega) (by omega), Int.ediv_ediv_of_nonneg (Int.le_of_lt (Int.pow_pos (by decide))), ← Int.pow_succ, show ((i : Int) + 1) % 256 = ((i + 1 : Nat) : Int) by omega]
theorem rhas_spec (m c : Int) (h0 : 0 ≤ m) (h1 : m < 4294967296) (hc : 0 ≤ c) : Ev (fun k => umpireref05_Has.f k m c) (hasv m c) := by
  unfold umpireref05_Has.f hasv
  by_cases a : c > 31
  · simp only [a, if_true]
    rw [show decide (c < 32) = false by simp; omega]
    exact Ev.now _
  · simp only [a, if_false]
    rw [show decide (c < 32) = true by simp; omega]
    have := rhas_loop m h0 h1 c.toNat (by omega) c.toNat 0 (by omega) (by omega)
    rw [show ((c.toNat : Nat) : Int) = c by omega] at this
    simpa using this
theorem rapart_spec (m c : Int) (h0 : 0 ≤ m) (h1 : m < 4294967296) (hc : 0 ≤ c) : Ev (fun k => umpireref05_Apart.f k m c) (apartv m c) := by
  unfold umpireref05_Apart.f apartv
  by_cases a : c = 125
  · simp only [a, if_true]
    exact Ev.now _
  · by_cases b : c = 126
    · simp only [a, b, if_true, if_false]
      exact Ev.now _
    · simp only [a, b, if_false]
      have := Ev.bind (rhas_spec m c h0 h1 hc) (Ev.now (hasv m c))
      simpa using this
theorem or_add (m : Int) (c : Nat) (h0 : 0 ≤ m) (h1 : m < 4294967296) (hc : c < 32) (hb : m.toNat.testBit c = false) : ((m.toNat ||| 2 ^ c : Nat) : Int) = m + 2 ^ c := by
  have hp : 2 ^ c < 2 ^ 32 := Nat.pow_lt_pow_right (by decide) hc
  have h2 : (BitVec.ofNat 33 m.toNat) &&& (BitVec.ofNat 33 (2 ^ c)) = 0#33 := by
    apply BitVec.eq_of_getLsbD_eq
    intro i hi
    simp only [BitVec.getLsbD_and, BitVec.getLsbD_ofNat, Nat.testBit_two_pow]
    by_cases e : c = i
    · subst e
      simp [hb]
    · simp [e]
  have h3 := BitVec.add_eq_or_of_and_eq_zero _ _ h2
  have h4 := congrArg BitVec.toNat h3
  simp only [BitVec.toNat_add, BitVec.toNat_or, BitVec.toNat_ofNat] at h4
  rw [Nat.mod_eq_of_lt (by omega : m.toNat < 2 ^ 33), Nat.mod_eq_of_lt (by omega : 2 ^ c < 2 ^ 33), Nat.mod_eq_of_lt (by omega)] at h4
  rw [← h4, Int.natCast_add, Int.natCast_pow]
  rw [show ((m.toNat : Nat) : Int) = m by omega]
  rfl
theorem or_same (m : Nat) (c : Nat) (hb : m.testBit c = true) : m ||| 2 ^ c = m := by
  apply Nat.eq_of_testBit_eq
  intro i
  rw [Nat.testBit_or, Nat.testBit_two_pow]
  by_cases e : c = i
  · subst e
    simp [hb]
  · simp [e]
theorem rwith_bits (m : Int) (l : List Int) (i : Nat) (hi : i < l.length) (hm : l.length ≤ 140737488355328) (c : Nat) (hc : l[i] = (c : Int)) (h32 : c < 32) {R : Int} (d : Nat) : ∀ j : Nat, c - j = d → j ≤ c →
    Ev (fun k => umpireref05_With.l0 k ((m + 2 ^ c) % 4294967296) l ((i + 1 : Nat) : Int)) R → Ev (fun k => umpireref05_With.l1 k m l (i : Int) (2 ^ j) (j : Int)) R := by
  induction d with
  | zero =>
    intro j hd hj h
    obtain rfl : j = c := by omega
    refine Ev.step (fun k => ?_) h
    rw [umpireref05_With.l1, if_pos (by omega), if_pos (by omega), rd_get i hi, hc, if_neg (by omega), w64 (by omega) (by omega)]
    rfl
  | succ d ih =>
    intro j hd hj h
    refine Ev.step (fun k => ?_) (ih (j + 1) (by omega) (by omega) h)
    have h2 : (2 : Int) ^ (j + 1) < 4294967296 := by
      have h3 : 2 ^ (j + 1) < 2 ^ 32 := Nat.pow_lt_pow_right (by decide) (by omega)
      have h4 : ((2 ^ (j + 1) : Nat) : Int) < ((2 ^ 32 : Nat) : Int) := Int.ofNat_lt.2 h3
      simpa using h4
    rw [umpireref05_With.l1, if_pos (by omega), if_pos (by omega), rd_get i hi, hc, if_pos (by omega), ← Int.pow_succ, Int.emod_eq_of_lt (Int.le_of_lt (Int.pow_pos (by decide))) h2, show ((j : Int) + 1) % 256 = ((j + 1 : Nat) : Int) by omega]
theorem rwith_loop (l : List Int) (hl : ∀ c ∈ l, 0 ≤ c) (hm : l.length ≤ 140737488355328) (d : Nat) : ∀ (i : Nat) (m : Int), l.length - i = d → i ≤ l.length → 0 ≤ m → m < 4294967296 →
    Ev (fun k => umpireref05_With.l0 k m l (i : Int)) (withv m (l.drop i)) := by
  induction d with
  | zero =>
    intro i m hd hi h0 h1
    refine Ev.step (f := fun _ => some (withv m (l.drop i))) (fun k => ?_) (Ev.now _)
    rw [umpireref05_With.l0, if_neg (by omega), List.drop_of_length_le (by omega)]
    rfl
  | succ d ih =>
    intro i m hd hi h0 h1
    have hil : i < l.length := by omega
    have hc := hl (l[i]'hil) (List.getElem_mem _)
    have hr := withv_range m [l[i]'hil] h0 h1
    have e : withv (withv m [l[i]'hil]) (l.drop (i + 1)) = withv m (l.drop i) := by
      rw [List.drop_eq_getElem_cons hil]
      rfl
    have next := ih (i + 1) _ (by omega) (by omega) hr.1 hr.2
    rw [e] at next
    by_cases a : l[i]'hil < 32
    · have hh := rhas_spec m (l[i]'hil) h0 h1 hc
      have hv : hasv m (l[i]'hil) = m.toNat.testBit (l[i]'hil).toNat := by
        unfold hasv
        simp [a]
      refine Ev.step (f := fun k => (umpireref05_Has.f k m (l[i]'hil)).bind fun t => (umpireref05_With.j1 k m l (i : Int) (!t))) (fun k => ?_) (Ev.bind hh ?_)
      · rw [umpireref05_With.l0, if_pos (by omega), if_pos (by omega), rd_get i hil, if_pos a]
      · rw [hv]
        have w1 : withv m [l[i]'hil] = ((m.toNat ||| 2 ^ (l[i]'hil).toNat : Nat) : Int) := by
          unfold withv
          rw [List.foldl_cons, if_pos a]
          rfl
        by_cases b : m.toNat.testBit (l[i]'hil).toNat = true
        · rw [b]
          refine Ev.step (fun k => ?_) next
          rw [umpireref05_With.j1, if_neg (by decide), w1, or_same _ _ b, w64 (by omega) (by omega), show ((m.toNat : Nat) : Int) = m by omega]
          rfl
        · have b' : m.toNat.testBit (l[i]'hil).toNat = false := by simpa using b
          rw [b']
          refine Ev.step (f := fun k => umpireref05_With.l1 k m l (i : Int) 1 0) (fun k => ?_) ?_
          · rw [umpireref05_With.j1, if_pos (by decide)]
          · have hoa := or_add m (l[i]'hil).toNat h0 h1 (by omega) b'
            rw [w1, hoa] at next
            have h4 : (m + 2 ^ (l[i]'hil).toNat) % 4294967296 = m + 2 ^ (l[i]'hil).toNat := by
              rw [w1, hoa] at hr
              exact Int.emod_eq_of_lt hr.1 hr.2
            have := rwith_bits m l i hil hm (l[i]'hil).toNat (by omega) (by omega) (l[i]'hil).toNat 0 (by omega) (by omega) (R := withv m (l.drop i)) (by rw [h4]; exact next)
            simpa using this
    · refine Ev.step (f := fun k => umpireref05_With.j1 k m l (i : Int) false) (fun k => ?_) (Ev.step (fun k => ?_) next)
      · rw [umpireref05_With.l0, if_pos (by omega), if_pos (by omega), rd_get i hil, if_neg a]
      · have w1 : withv m [l[i]'hil] = m := by
          unfold withv
          rw [List.foldl_cons, if_neg a]
          rfl
        rw [umpireref05_With.j1, if_neg (by decide), w1, w64 (by omega) (by omega)]
        rfl
theorem rwith_spec (m : Int) (l : List Int) (h0 : 0 ≤ m) (h1 : m < 4294967296) (hl : ∀ c ∈ l, 0 ≤ c) (hm : l.length ≤ 140737488355328) : Ev (fun k => umpireref05_With.f k m l) (withv m l) := by
  have := rwith_loop l hl hm l.length 0 m (by omega) (by omega) h0 h1
  exact this
theorem rlist_loop (m : Int) (h0 : 0 ≤ m) (h1 : m < 4294967296) (d : Nat) : ∀ (i : Nat) (acc : List Int), 32 - i = d → i ≤ 32 → acc.length ≤ i →
    Ev (fun k => umpireref05_List.l0 k m acc (i : Int)) (acc ++ charsFrom m i) := by
  induction d with
  | zero =>
    intro i acc hd hi ha
    refine Ev.step (f := fun _ => some (acc ++ charsFrom m i)) (fun k => ?_) (Ev.now _)
    rw [umpireref05_List.l0, if_neg (by omega)]
    obtain rfl : i = 32 := by omega
    simp [charsFrom]
  | succ d ih =>
    intro i acc hd hi ha
    have hh := rhas_spec m i h0 h1 (by omega)
    have hv : hasv m (i : Int) = m.toNat.testBit i := by
      unfold hasv
      simp
      omega
    rw [hv] at hh
    refine Ev.step (f := fun k => (umpireref05_Has.f k m (i : Int)).bind fun t => if t = true then (umpireref05_List.l0 k m (acc ++ [(i : Int)]) ((i + 1 : Nat) : Int)) else (umpireref05_List.l0 k m acc ((i + 1 : Nat) : Int))) (fun k => ?_) (Ev.bind hh ?_)
    · rw [umpireref05_List.l0, if_pos (by omega), show (i : Int) % 256 = (i : Int) by omega, w64 (by omega) (by omega), if_pos (by omega)]
      rfl
    · have next := ih (i + 1) (acc ++ (if m.toNat.testBit i then [(i : Int)] else [])) (by omega) (by omega) (by
        rw [List.length_append]
        split <;> simp <;> omega)
      rw [List.append_assoc, ← charsFrom_step m i (by omega)] at next
      by_cases a : m.toNat.testBit i = true
      · simp only [a, if_true] at next ⊢
        exact next
      · simp only [a, Bool.false_eq_true, if_false, List.append_nil] at next ⊢
        exact next
theorem rlist_spec (m : Int) (h0 : 0 ≤ m) (h1 : m < 4294967296) : Ev (fun k => umpireref05_List.f k m) (chars m) := by
  have := rlist_loop m h0 h1 32 0 [] (by omega) (by omega) (by simp)
  exact this
theorem rget_spec4 (l : List Int) (hb : Bytes l) : Ev (fun k => umpireref05_Get.f k l) (if l.length = 4 then (beval l, true) else (0, false)) := by
  unfold umpireref05_Get.f
  by_cases a : l.length = 4
  · simp only [a, show ((4 : Nat) : Int) = 4 from rfl, if_true]
    have h1 := rget_spec l hb (by omega) true
    have h2 := beval_range l hb
    rw [a, show (256 : Int) ^ 4 = 4294967296 from by decide] at h2
    refine Ev.bind h1 ?_
    have : (getv l true) = beval l := by simp [getv]
    rw [this, Int.emod_eq_of_lt h2.1 h2.2]
    exact Ev.now _
  · rw [if_neg a]
    simp only [show ¬ ((l.length : Int) = 4) by omega, if_false]
    exact Ev.now _
theorem rput_spec4 (m : Int) (h0 : 0 ≤ m) (h1 : m < 4294967296) : Ev (fun k => umpireref05_Put.f k m) (putb m 4 true) := by
  unfold umpireref05_Put.f
  rw [wu64s h0 (by omega)]
  exact Ev.bind (rput_spec m 4 true h0 (by omega) (by decide)) (Ev.now _)
end Go.Proofs.Ytnnehekodoakeaa.Q
