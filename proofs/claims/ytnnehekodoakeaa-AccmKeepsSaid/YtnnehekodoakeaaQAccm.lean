/- The functions of accm and of its reference, told by bits. -/
import Derived.Test.YtnnehekodoakeaaQOctet
import Derived.Test.YtnnehekodoakeaaF17
import Derived.Test.YtnnehekodoakeaaF19
import Derived.Test.YtnnehekodoakeaaF21
import Derived.Test.YtnnehekodoakeaaF23
import Derived.Test.YtnnehekodoakeaaF25
namespace Go.Proofs.Ytnnehekodoakeaa.Q
open Go.RowKit Go.Proofs.Ytnnehekodoakeaa.Print Go.Proofs.YtnnehekodoakeaaW.PrintWords Go.Proofs.YtnnehekodoakeaaW.PrintLast Go.Proofs.YtnnehekodoakeaaW.PrintMore
set_option linter.unusedVariables false
set_option linter.unusedSimpArgs false

/-- Is the character in the map? -/
def hasv (m c : Int) : Bool := decide (c < 32) && m.toNat.testBit c.toNat
theorem toNat_div (m : Int) (h : 0 ≤ m) (j : Nat) : (m / 2 ^ j) = ((m.toNat / 2 ^ j : Nat) : Int) := by
  obtain ⟨n, rfl⟩ := Int.eq_ofNat_of_zero_le h
  simp
theorem bit_of (m : Int) (h : 0 ≤ m) (j : Nat) : ((m / 2 ^ j) % 2 == 1) = m.toNat.testBit j := by
  rw [Nat.testBit_eq_decide_div_mod_eq, toNat_div m h]
  rw [Bool.eq_iff_iff, beq_iff_eq, decide_eq_true_iff]
  omega
theorem has_spec (m c : Int) (h0 : 0 ≤ m) (h1 : m < 4294967296) (hc : 0 ≤ c) : accm_Has.f m c = some (hasv m c) := by
  unfold accm_Has.f hasv
  by_cases a : c < 32
  · rw [if_pos a, if_pos hc]
    have hs : shr .u32 m c = m / 2 ^ c.toNat := by
      unfold shr
      rw [Nat.min_eq_left (by simp [IntKind.bits]; omega)]
    have hq0 : 0 ≤ m / 2 ^ c.toNat := Int.ediv_nonneg h0 (Int.le_of_lt (Int.pow_pos (by decide)))
    have hq1 : m / 2 ^ c.toNat ≤ m := Int.ediv_le_self _ h0
    rw [hs, u32_low hq0 (by omega), bit_of m h0]
    simp [a]
  · rw [if_neg a]
    simp [a]
/-- Is the byte told apart? -/
def apartv (m c : Int) : Bool := decide (c = 125) || (decide (c = 126) || hasv m c)
theorem apart_spec (m c : Int) (h0 : 0 ≤ m) (h1 : m < 4294967296) (hc : 0 ≤ c) : accm_Apart.f m c = some (apartv m c) := by
  unfold accm_Apart.f apartv
  rw [has_spec m c h0 h1 hc]
  by_cases a : c = 125
  · simp [a]
  · by_cases b : c = 126
    · simp [b]
    · simp [a, b]

/-- A map with characters. -/
def withv (m : Int) (l : List Int) : Int := l.foldl (fun m c => if c < 32 then ((m.toNat ||| 2 ^ c.toNat : Nat) : Int) else m) m
theorem withv_range (m : Int) (l : List Int) (h0 : 0 ≤ m) (h1 : m < 4294967296) : 0 ≤ withv m l ∧ withv m l < 4294967296 := by
  induction l generalizing m with
  | nil => exact ⟨h0, h1⟩
  | cons c l ih =>
    unfold withv
    rw [List.foldl_cons]
    have : 0 ≤ (if c < 32 then ((m.toNat ||| 2 ^ c.toNat : Nat) : Int) else m) ∧ (if c < 32 then ((m.toNat ||| 2 ^ c.toNat : Nat) : Int) else m) < 4294967296 := by
      by_cases a : c < 32
      · rw [if_pos a]
        have h2 : m.toNat ||| 2 ^ c.toNat < 2 ^ 32 := Nat.or_lt_two_pow (by omega) (Nat.pow_lt_pow_right (by decide) (by omega))
        exact ⟨by omega, by omega⟩
      · rw [if_neg a]
        exact ⟨h0, h1⟩
    exact ih _ this.1 this.2
theorem withv_bit (m : Int) (l : List Int) (j : Nat) (h0 : 0 ≤ m) (hl : ∀ c ∈ l, 0 ≤ c) : (withv m l).toNat.testBit j = (m.toNat.testBit j || l.any (fun c => decide (c < 32) && decide (c.toNat = j))) := by
  induction l generalizing m with
  | nil => simp [withv]
  | cons c l ih =>
    have hc := hl c (by simp)
    have hl' : ∀ c ∈ l, 0 ≤ c := fun x hx => hl x (List.mem_cons_of_mem _ hx)
    unfold withv
    rw [List.foldl_cons, List.any_cons]
    by_cases a : c < 32
    · rw [if_pos a]
      have := ih ((m.toNat ||| 2 ^ c.toNat : Nat) : Int) (by omega) hl'
      unfold withv at this
      rw [this, Int.toNat_natCast, Nat.testBit_or, Nat.testBit_two_pow]
      simp [a, Bool.or_assoc]
    · rw [if_neg a]
      have := ih m h0 hl'
      unfold withv at this
      rw [this]
      simp [a]
theorem with_loop (l : List Int) (hl : ∀ c ∈ l, 0 ≤ c) (hm : l.length ≤ 140737488355328) (d : Nat) : ∀ (i : Nat) (m : Int), l.length - i = d → i ≤ l.length → 0 ≤ m → m < 4294967296 →
    Ev (fun k => accm_With.l0 k m l (l.length : Int) (i : Int)) (withv m (l.drop i)) := by
  induction d with
  | zero =>
    intro i m hd hi h0 h1
    refine Ev.step (f := fun _ => some (withv m (l.drop i))) (fun k => ?_) (Ev.now _)
    rw [accm_With.l0, if_neg (by omega), List.drop_of_length_le (by omega)]
    rfl
  | succ d ih =>
    intro i m hd hi h0 h1
    have hr := withv_range m [l[i]'(by omega)] h0 h1
    refine Ev.step (f := fun k => accm_With.l0 k (withv m [l[i]'(by omega)]) l (l.length : Int) ((i + 1 : Nat) : Int)) (fun k => ?_) ?_
    · have hc := hl (l[i]'(by omega)) (List.getElem_mem _)
      rw [accm_With.l0, if_pos (by omega), if_pos (by omega), if_pos (by omega), rd_get i (by omega), w64 (by omega) (by omega)]
      by_cases a : l[i]'(by omega) < 32
      · rw [if_pos a, if_pos hc]
        have hs : shl .u32 1 (l[i]'(by omega)) = ((2 ^ (l[i]'(by omega)).toNat : Nat) : Int) := by
          unfold shl
          rw [Nat.min_eq_left (by simp [IntKind.bits]; omega), Int.one_mul]
          have h2 : 2 ^ (l[i]'(by omega)).toNat < 2 ^ 32 := Nat.pow_lt_pow_right (by decide) (by omega)
          rw [wu32s]
          · simp
          · exact Int.le_of_lt (Int.pow_pos (by decide))
          · have h3 : ((2 ^ (l[i]'(by omega)).toNat : Nat) : Int) < ((2 ^ 32 : Nat) : Int) := Int.ofNat_lt.2 h2
            simpa using h3
        have hb := bits_u32_or (a := m.toNat) (b := 2 ^ (l[i]'(by omega)).toNat) (by omega) (by
          have h2 : 2 ^ (l[i]'(by omega)).toNat < 2 ^ 32 := Nat.pow_lt_pow_right (by decide) (by omega)
          simpa using h2)
        rw [hs]
        rw [show ((m.toNat : Nat) : Int) = m by omega] at hb
        rw [hb]
        unfold withv
        rw [List.foldl_cons, if_pos a]
        rfl
      · rw [if_neg a]
        unfold withv
        rw [List.foldl_cons, if_neg a]
        rfl
    · have := ih (i + 1) _ (by omega) (by omega) hr.1 hr.2
      have e : withv (withv m [l[i]'(by omega)]) (l.drop (i + 1)) = withv m (l.drop i) := by
        rw [List.drop_eq_getElem_cons (by omega : i < l.length)]
        rfl
      rw [e] at this
      exact this
theorem with_spec (m : Int) (l : List Int) (h0 : 0 ≤ m) (h1 : m < 4294967296) (hl : ∀ c ∈ l, 0 ≤ c) (hm : l.length ≤ 140737488355328) : Ev (fun k => accm_With.f k m l) (withv m l) := by
  have := with_loop l hl hm l.length 0 m (by omega) (by omega) h0 h1
  exact this

/-- A map's characters from i on. -/
def charsFrom (m : Int) (i : Nat) : List Int := ((List.range' i (32 - i)).filter (fun c => m.toNat.testBit c)).map fun c : Nat => (c : Int)
/-- A map's characters. -/
def chars (m : Int) : List Int := charsFrom m 0
theorem charsFrom_step (m : Int) (i : Nat) (h : i < 32) : charsFrom m i = (if m.toNat.testBit i then [(i : Int)] else []) ++ charsFrom m (i + 1) := by
  unfold charsFrom
  rw [show 32 - i = (32 - (i + 1)) + 1 by omega, List.range'_succ, List.filter_cons]
  by_cases a : m.toNat.testBit i = true
  · simp [a]
  · simp [a]
theorem chars_mem (m : Int) (i : Nat) (c : Int) : c ∈ charsFrom m i ↔ ∃ j : Nat, c = (j : Int) ∧ i ≤ j ∧ j < 32 ∧ m.toNat.testBit j = true := by
  unfold charsFrom
  simp only [List.mem_map, List.mem_filter, List.mem_range'_1]
  constructor
  · rintro ⟨j, ⟨⟨h1, h2⟩, h3⟩, rfl⟩
    exact ⟨j, rfl, h1, by omega, h3⟩
  · rintro ⟨j, rfl, h1, h2, h3⟩
    exact ⟨j, ⟨⟨h1, by omega⟩, h3⟩, rfl⟩
theorem chars_bytes (m : Int) (i : Nat) : Bytes (charsFrom m i) := by
  intro c hc
  obtain ⟨j, rfl, _, h, _⟩ := (chars_mem m i c).1 hc
  omega
theorem charsFrom_len (m : Int) (i : Nat) : (charsFrom m i).length ≤ 32 - i := by
  unfold charsFrom
  rw [List.length_map]
  have := List.length_filter_le (fun c => m.toNat.testBit c) (List.range' i (32 - i))
  rw [List.length_range'] at this
  exact this
theorem list_loop (m : Int) (h0 : 0 ≤ m) (h1 : m < 4294967296) (d : Nat) : ∀ (i : Nat) (acc : List Int), 32 - i = d → i ≤ 32 → acc.length ≤ i →
    Ev (fun k => accm_List.l0 k m acc (i : Int)) (acc ++ charsFrom m i) := by
  induction d with
  | zero =>
    intro i acc hd hi ha
    refine Ev.step (f := fun _ => some (acc ++ charsFrom m i)) (fun k => ?_) (Ev.now _)
    rw [accm_List.l0, if_neg (by omega)]
    obtain rfl : i = 32 := by omega
    simp [charsFrom]
  | succ d ih =>
    intro i acc hd hi ha
    refine Ev.step (f := fun k => accm_List.l0 k m (acc ++ (if m.toNat.testBit i then [(i : Int)] else [])) ((i + 1 : Nat) : Int)) (fun k => ?_) ?_
    · rw [accm_List.l0, if_pos (by omega), has_spec m i h0 h1 (by omega)]
      simp only [Option.bind_some]
      have hh : hasv m (i : Int) = m.toNat.testBit i := by
        unfold hasv
        simp
        omega
      rw [hh, show ((i : Int) + 1) % 256 = ((i + 1 : Nat) : Int) by omega]
      by_cases a : m.toNat.testBit i = true
      · simp only [a, if_true]
        rw [if_pos (by omega)]
      · simp [a]
    · rw [charsFrom_step m i (by omega), ← List.append_assoc]
      refine ih (i + 1) _ (by omega) (by omega) ?_
      rw [List.length_append]
      split <;> simp <;> omega
theorem list_spec (m : Int) (h0 : 0 ≤ m) (h1 : m < 4294967296) : Ev (fun k => accm_List.f k m) (chars m) := by
  have := list_loop m h0 h1 32 0 [] (by omega) (by omega) (by simp)
  exact this
theorem chars_rise (m : Int) : (chars m).Pairwise (· < ·) := by
  unfold chars charsFrom
  rw [List.pairwise_map]
  refine List.Pairwise.imp ?_ (List.Pairwise.filter _ List.pairwise_lt_range')
  intro a b h
  omega
theorem bit_high (m : Int) (h0 : 0 ≤ m) (h1 : m < 4294967296) (j : Nat) (hj : 32 ≤ j) : m.toNat.testBit j = false :=
  Nat.testBit_lt_two_pow (Nat.lt_of_lt_of_le (by omega : m.toNat < 2 ^ 32) (Nat.pow_le_pow_right (by decide) hj))
/-- Maps of the same bits are one. -/
theorem map_ext {m n : Int} (hm : 0 ≤ m) (hn : 0 ≤ n) (h : ∀ j, m.toNat.testBit j = n.toNat.testBit j) : m = n := by
  have := Nat.eq_of_testBit_eq h
  omega
theorem with_chars (m n : Int) (hm : 0 ≤ m) (hn0 : 0 ≤ n) (hn : n < 4294967296) (j : Nat) : (withv m (chars n)).toNat.testBit j = (m.toNat.testBit j || n.toNat.testBit j) := by
  rw [withv_bit m (chars n) j hm (fun c hc => (chars_bytes n 0 c hc).1)]
  congr 1
  rw [Bool.eq_iff_iff, List.any_eq_true]
  constructor
  · rintro ⟨c, hc, h⟩
    obtain ⟨i, rfl, _, _, hb⟩ := (chars_mem n 0 c).1 hc
    simp at h
    rw [← h.2]
    exact hb
  · intro h
    have hj : j < 32 := by
      rcases Nat.lt_or_ge j 32 with hj | hj
      · exact hj
      · rw [bit_high n hn0 hn j hj] at h
        cases h
    exact ⟨(j : Int), (chars_mem n 0 _).2 ⟨j, rfl, by omega, hj, h⟩, by simp; omega⟩
theorem chars_inj {m n : Int} (hm0 : 0 ≤ m) (hm : m < 4294967296) (hn0 : 0 ≤ n) (hn : n < 4294967296) (h : chars m = chars n) : m = n := by
  refine map_ext hm0 hn0 fun j => ?_
  have h1 := with_chars 0 m (by decide) hm0 hm j
  have h2 := with_chars 0 n (by decide) hn0 hn j
  rw [h, h2] at h1
  simpa using h1.symm
theorem get_spec4 (l : List Int) (hb : Bytes l) : Ev (fun k => accm_Get.f k l) (if l.length = 4 then (beval l, true) else (0, false)) := by
  unfold accm_Get.f
  by_cases a : l.length = 4
  · simp only [a, show ((4 : Nat) : Int) = 4 from rfl, if_true]
    have h1 := get_spec l hb true
    rw [if_pos (by omega)] at h1
    have h2 := beval_range l hb
    rw [a, show (256 : Int) ^ 4 = 4294967296 from by decide] at h2
    refine Ev.bind h1 ?_
    have : (getv l true) = beval l := by simp [getv]
    rw [this, Int.emod_eq_of_lt h2.1 h2.2]
    exact Ev.now _
  · rw [if_neg a]
    simp only [show ¬ ((l.length : Int) = 4) by omega, if_false]
    exact Ev.now _
theorem put_spec4 (m : Int) (h0 : 0 ≤ m) (h1 : m < 4294967296) : Ev (fun k => accm_Put.f k m) (putb m 4 true) := by
  unfold accm_Put.f
  rw [wu64s h0 (by omega)]
  have h := put_spec m 4 true h0 (by omega)
  have hf : fits m 4 = true := by
    unfold fits
    simp [show (256 : Int) ^ (4 : Int).toNat = 4294967296 from by decide, h1]
  rw [hf] at h
  exact Ev.bind h (Ev.now _)
theorem get_put4 (m : Int) (h0 : 0 ≤ m) (h1 : m < 4294967296) : beval (putb m 4 true) = m := by
  have := getv_putb m 4 true h0 (by simpa using h1)
  simpa [getv] using this
end Go.Proofs.Ytnnehekodoakeaa.Q
