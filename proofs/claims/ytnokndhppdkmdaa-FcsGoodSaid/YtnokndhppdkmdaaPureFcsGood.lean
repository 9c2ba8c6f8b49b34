/- The law FcsGood, over numbers and lists: what is sealed is good, and opened is as it was; with bits turned that lie side by side, as many as the check sequence has, it isn't; no conditions. -/
import Derived.Test.YtnokndhppdkmdaaQFcs
import Derived.Test.YtnokndhppdkmdaaQAwakeFcs
import Derived.Test.YtnokndhppdkmdaaF5
namespace Go.Proofs.Ytnokndhppdkmdaa.Pure
open Go.RowKit Go.Proofs.Ytnokndhppdkmdaa.Print Go.Proofs.Ytnokndhppdkmdaa.Q Go.Proofs.YtnokndhppdkmdaaW.PrintWords Go.Proofs.YtnokndhppdkmdaaW.PrintLast Go.Proofs.YtnokndhppdkmdaaW.PrintMore
set_option linter.unusedVariables false
set_option linter.unusedSimpArgs false

theorem gxor_mul (x y k : Nat) : (x ^^^ y) * 2 ^ k = (x * 2 ^ k) ^^^ (y * 2 ^ k) := by
  apply Nat.eq_of_testBit_eq
  intro i
  rw [Nat.testBit_xor, Nat.testBit_mul_two_pow, Nat.testBit_mul_two_pow, Nat.testBit_mul_two_pow, Nat.testBit_xor]
  cases decide (k ≤ i) <;> simp
theorem leN_set (y : List Int) (c w : Nat) : ∀ (q : Nat) (h : q < y.length), y[q] = (c : Int) → leN (y.set q ((c ^^^ w : Nat) : Int)) = leN y ^^^ (w * 256 ^ q) := by
  induction y with
  | nil => intro q h; simp at h
  | cons x y ih =>
    intro q h e
    cases q with
    | zero =>
      simp only [List.getElem_cons_zero] at e
      subst e
      rw [List.set_cons_zero, leN, leN, Int.toNat_natCast, Int.toNat_natCast, Nat.pow_zero, Nat.mul_one, Nat.xor_assoc, Nat.xor_assoc, Nat.xor_comm w]
    | succ q =>
      simp only [List.getElem_cons_succ] at e
      have hx : ∀ a b : Nat, (a ^^^ b) * 256 = (a * 256) ^^^ (b * 256) := fun a b => gxor_mul a b 8
      rw [List.set_cons_succ, leN, leN, ih q (by simpa using h) e, hx, ← Nat.xor_assoc, Nat.pow_succ, Nat.mul_assoc]
theorem bytes_set {y : List Int} (h : Bytes y) (q : Nat) {v : Int} (hv : 0 ≤ v ∧ v < 256) : Bytes (y.set q v) := by
  intro x hx
  rcases List.mem_or_eq_of_mem_set hx with hx | rfl
  · exact h x hx
  · exact hv
theorem turned_good (x y : List Int) (wide : Bool) (f t : Nat) (hx : goodv x wide = true) (hl : y.length = x.length) (hf : f ≤ 8 * x.length) (ht : t < 2 ^ wid wide) (he : leN y = leN x ^^^ (t * 2 ^ f)) : goodv y wide = decide (t = 0) := by
  unfold goodv at hx ⊢
  simp only [Bool.and_eq_true, decide_eq_true_eq] at hx
  have h1 : moreN (byN wide) (allN wide) y = goodN wide ^^^ Sn (byN wide) (8 * x.length - f) t := by
    rw [moreN_eq, hl, he, ← Nat.xor_assoc, Sn_xor, ← moreN_eq, hx.2]
    congr 1
    have e : 8 * x.length = f + (8 * x.length - f) := by omega
    conv => lhs; rw [e]
    rw [Sn_add, Sn_shift]
  rw [h1, hl]
  simp only [hx.1, decide_true, Bool.true_and]
  rw [decide_eq_decide]
  constructor
  · intro h
    have h2 : Sn (byN wide) (8 * x.length - f) t = 0 := by
      have h3 : goodN wide ^^^ (goodN wide ^^^ Sn (byN wide) (8 * x.length - f) t) = goodN wide ^^^ goodN wide := by rw [h]
      rwa [← Nat.xor_assoc, Nat.xor_self, Nat.zero_xor] at h3
    exact Sn_inj0 _ (byN_ge wide) (byN_lt wide) (by have := wid_ge wide; omega) ht h2
  · intro h
    rw [h, Sn_zero, Nat.xor_zero]
/-- The bytes y are x, with T's lowest i bits turned from bit f on. -/
def Turned (x y : List Int) (f T i : Nat) : Prop := leN y = leN x ^^^ ((T % 2 ^ i) * 2 ^ f)
/-- Whether one of the lowest i bits is set. -/
def some_ (T i : Nat) : Bool := decide (T % 2 ^ i ≠ 0)
theorem g1 (i : Nat) (h : i ≤ 1000000) : wrap64 ((i : Int) + 1) = ((i + 1 : Nat) : Int) := by
  rw [w64 (by omega) (by omega)]
  omega
theorem g2 (f i : Nat) (h : f + i ≤ 1000000) : wrap64 ((f : Int) + (i : Int)) = ((f + i : Nat) : Int) := by
  rw [w64 (by omega) (by omega)]
  omega
theorem g3 (n m : Nat) (e : n = m) (h : m ≤ 1000000) : wrap64 (8 * (n : Int)) = ((8 * m : Nat) : Int) := by
  rw [w64 (by omega) (by omega), e]
  omega
theorem g4 (i : Nat) (h : i ≤ 1000000) : IntKind.u64.wrap (i : Int) = (i : Int) := wu64s (by omega) (by omega)
theorem g5 (s : Nat) (h : s ≤ 1000000) : wrap64 (Int.tdiv ((s : Nat) : Int) 8) = ((s / 8 : Nat) : Int) := by
  rw [Int.tdiv_eq_ediv_of_nonneg (by omega), w64 (by omega) (by omega)]
  omega
theorem g6 (s : Nat) (h : s ≤ 1000000) : IntKind.u64.wrap (Int.tmod ((s : Nat) : Int) 8) = ((s % 8 : Nat) : Int) := by
  rw [Int.tmod_eq_emod_of_nonneg (by omega), wu64s (by omega) (by omega)]
  omega
theorem g7 (r : Nat) (hr : r < 8) : 2 ^ r < 256 := Nat.lt_of_lt_of_le (Nat.pow_lt_pow_right (by decide) hr) (by decide)
theorem g8 (r : Nat) (hr : r < 8) : shl .u8 1 ((r : Nat) : Int) = ((2 ^ r : Nat) : Int) := by
  match r, hr with
  | 0, _ => decide
  | 1, _ => decide
  | 2, _ => decide
  | 3, _ => decide
  | 4, _ => decide
  | 5, _ => decide
  | 6, _ => decide
  | 7, _ => decide
theorem g9 (T i : Nat) (hT : T < 4294967296) (hi : i ≤ 32) : Go.bits .and .u32 (shr .u32 (T : Int) (i : Int)) 1 = ((T / 2 ^ i % 2 : Nat) : Int) := by
  have h1 : shr .u32 (T : Int) (i : Int) = ((T / 2 ^ i : Nat) : Int) := by
    unfold shr
    rw [Int.toNat_natCast, show min i (IntKind.bits .u32) = i from Nat.min_eq_left hi, Int.natCast_ediv, Int.natCast_pow]
    rfl
  have h2 : T / 2 ^ i ≤ T := Nat.div_le_self _ _
  generalize T / 2 ^ i = q at h1 h2 ⊢
  rw [h1, u32_low (by omega) (by omega)]
  omega
theorem some_next (T i : Nat) (b : T / 2 ^ i % 2 = 1) : some_ T (i + 1) = true := by
  unfold some_
  apply decide_eq_true
  rw [Nat.mod_pow_succ, b, Nat.mul_one]
  have := Nat.two_pow_pos i
  generalize T % 2 ^ i = p at *
  generalize 2 ^ i = q at *
  omega
theorem some_same (T i : Nat) (b : T / 2 ^ i % 2 = 0) : some_ T (i + 1) = some_ T i := by
  unfold some_
  rw [Nat.mod_pow_succ, b, Nat.mul_zero, Nat.add_zero]
theorem Turned.same {x y : List Int} {f T i : Nat} (h : Turned x y f T i) (b : T / 2 ^ i % 2 = 0) : Turned x y f T (i + 1) := by
  unfold Turned at h ⊢
  rw [Nat.mod_pow_succ, b, Nat.mul_zero, Nat.add_zero]
  exact h
theorem Turned.next {x y : List Int} {f T i c : Nat} (h : Turned x y f T i) (b : T / 2 ^ i % 2 = 1) (hq : (f + i) / 8 < y.length) (ec : y[(f + i) / 8] = (c : Int)) : Turned x (y.set ((f + i) / 8) ((c ^^^ 2 ^ ((f + i) % 8) : Nat) : Int)) f T (i + 1) := by
  unfold Turned at h ⊢
  have e4 : T % 2 ^ (i + 1) = T % 2 ^ i ^^^ 2 ^ i := by
    rw [Nat.mod_pow_succ, b, Nat.mul_one]
    have := add_xor (a := T % 2 ^ i) (k := i) 1 (Nat.mod_lt _ (Nat.two_pow_pos i))
    rwa [Nat.one_mul] at this
  rw [leN_set y c _ _ hq ec, h, e4, gxor_mul, ← Nat.xor_assoc, show (256 : Nat) ^ ((f + i) / 8) = 2 ^ (8 * ((f + i) / 8)) by rw [Nat.pow_mul], ← Nat.pow_add, ← Nat.pow_add, Nat.mod_add_div, Nat.add_comm f i]
set_option maxHeartbeats 1000000 in
theorem turn_loop (x : List Int) (wide : Bool) (f T : Nat) (hx : goodv x wide = true) (hl : x.length ≤ 100000) (hT : T < 4294967296) (d : Nat) : ∀ (i : Nat) (y : List Int), wid wide - i = d → i ≤ wid wide → f + i ≤ 8 * x.length → y.length = x.length → Bytes y → Turned x y f T i →
    Ev (fun k => umpirelaw04_FcsGood.l0 k wide (T : Int) y (wid wide : Int) (f : Int) (some_ T i) (i : Int)) true := by
  have hw := wid_le wide
  have fin : ∀ (i : Nat) (y : List Int), i ≤ wid wide → f + i ≤ 8 * x.length → y.length = x.length → Bytes y → Turned x y f T i →
      Ev (fun k => umpirelaw04_FcsGood.j3 k wide (T : Int) y (wid wide : Int) (f : Int) (some_ T i) (i : Int) false) true := by
    intro i y hi hfi hy hb he
    have ht : T % 2 ^ i < 2 ^ wid wide := Nat.lt_of_lt_of_le (Nat.mod_lt _ (Nat.two_pow_pos i)) (Nat.pow_le_pow_right (by decide) hi)
    have hg := turned_good x y wide f (T % 2 ^ i) hx hy (Nat.le_trans (Nat.le_add_right f i) hfi) ht he
    refine Ev.step (f := fun _ => some true) (fun k => ?_) (Ev.now _)
    rw [umpirelaw04_FcsGood.j3, if_neg (by decide), good_spec y wide hb, Option.bind_some, hg]
    unfold some_
    by_cases c : T % 2 ^ i = 0
    · simp [c]
    · simp [c]
  induction d with
  | zero =>
    intro i y hd hi hfi hy hb he
    refine Ev.step (fun k => by rw [umpirelaw04_FcsGood.l0, if_neg (by omega)]) (fin i y hi hfi hy hb he)
  | succ d ih =>
    intro i y hd hi hfi hy hb he
    have k0 : f + i ≤ 1000000 := by omega
    have k1 : x.length ≤ 1000000 := by omega
    have k2 : i ≤ 1000000 := by omega
    have k3 : i ≤ 32 := by omega
    have i1 : (i : Int) < (wid wide : Int) := by omega
    by_cases c : f + i < 8 * x.length
    · have hq : (f + i) / 8 < y.length := by omega
      have hr : (f + i) % 8 < 8 := Nat.mod_lt _ (by decide)
      have i0 : (0 : Int) ≤ (i : Int) := by omega
      have i2 : decide (((f + i : Nat) : Int) < ((8 * x.length : Nat) : Int)) = true := decide_eq_true (by omega)
      have i3 : (0 : Int) ≤ (((f + i) / 8 : Nat) : Int) := by omega
      have i4 : (((f + i) / 8 : Nat) : Int) < (y.length : Int) := by omega
      have i5 : (0 : Int) ≤ (((f + i) % 8 : Nat) : Int) := by omega
      have hc := hb _ (List.getElem_mem hq)
      obtain ⟨c0, ec⟩ := Int.eq_ofNat_of_zero_le hc.1
      have hc0 : c0 < 256 := by
        have h1 := hc.2
        rw [ec] at h1
        exact Int.ofNat_lt.1 h1
      have hd1 : wid wide - (i + 1) = d := by omega
      have hi2 : i + 1 ≤ wid wide := by omega
      have hfi2 : f + (i + 1) ≤ 8 * x.length := by omega
      have hs := g2 f i k0
      have h8 := g3 y.length x.length hy k1
      have hi1 := g1 i k2
      have hu := g4 i k2
      have hlow := g9 T i hT k3
      have e1 := g5 (f + i) k0
      have e2 := g6 (f + i) k0
      have e3 := g8 ((f + i) % 8) hr
      have h2 := g7 ((f + i) % 8) hr
      have hv : c0 ^^^ 2 ^ ((f + i) % 8) < 2 ^ 8 := Nat.xor_lt_two_pow hc0 h2
      have hv1 : 0 ≤ (((c0 ^^^ 2 ^ ((f + i) % 8) : Nat)) : Int) ∧ (((c0 ^^^ 2 ^ ((f + i) % 8) : Nat)) : Int) < 256 := ⟨Int.natCast_nonneg _, Int.ofNat_lt.2 hv⟩
      refine Ev.step (f := fun k => umpirelaw04_FcsGood.j3 k wide (T : Int) y (wid wide : Int) (f : Int) (some_ T i) (i : Int) true) (fun k => ?_) ?_
      · rw [umpirelaw04_FcsGood.l0, if_pos i1, hs, h8, i2]
      · rcases Nat.mod_two_eq_zero_or_one (T / 2 ^ i) with b | b
        · have next := ih (i + 1) y hd1 hi2 hfi2 hy hb (he.same b)
          rw [some_same T i b] at next
          rw [b] at hlow
          refine Ev.step (fun k => ?_) next
          rw [umpirelaw04_FcsGood.j3, if_pos rfl, hu, if_pos i0, hlow, if_neg (by decide), hi1]
        · have next := ih (i + 1) (y.set ((f + i) / 8) ((c0 ^^^ 2 ^ ((f + i) % 8) : Nat) : Int)) hd1 hi2 hfi2 (by rw [List.length_set]; exact hy) (bytes_set hb _ hv1) (he.next b hq ec)
          rw [some_next T i b] at next
          rw [b] at hlow
          refine Ev.step (fun k => ?_) next
          rw [umpirelaw04_FcsGood.j3, if_pos rfl, hu, if_pos i0, hlow, if_pos (show ((1 : Nat) : Int) = 1 from rfl), hs, e1, if_pos i3, if_pos i4, e2, if_pos i5, rd_get _ hq, ec, e3, bits_u8_xor hc0 h2, hi1, Int.toNat_natCast]
    · have hs := g2 f i k0
      have h8 := g3 y.length x.length hy k1
      have i2 : decide (((f + i : Nat) : Int) < ((8 * x.length : Nat) : Int)) = false := decide_eq_false (by omega)
      refine Ev.step (fun k => ?_) (fin i y hi hfi hy hb he)
      rw [umpirelaw04_FcsGood.l0, if_pos i1, hs, h8, i2]
theorem FcsGood : umpirelaw04_FcsGood.Pure := by
  intro l wide at_ T hl1 hl2 hl3 hat hT
  obtain ⟨a0, a1⟩ := wf_u16 hat
  obtain ⟨t0, t1⟩ := wf_u32 hT
  obtain ⟨T, rfl⟩ := Int.eq_ofNat_of_zero_le t0
  obtain ⟨at_, rfl⟩ := Int.eq_ofNat_of_zero_le a0
  have hb := bytes_wf hl3
  have h4 := sizeN_le wide
  apply Ev.rounds
  unfold umpirelaw04_FcsGood.f
  refine Ev.bind awake_fcs ?_
  simp only [if_true]
  by_cases a : (l.length : Int) > 2000
  · simp only [a, decide_true]
    refine Ev.step (f := fun k => (umpirelaw04_awake.f k).bind fun t => (some t)) (fun k => ?_) (Ev.bind awake_fcs (Ev.now _))
    rw [umpirelaw04_FcsGood.j0, if_pos rfl]
  · simp only [a, decide_false]
    refine Ev.step (fun k => by rw [umpirelaw04_FcsGood.j0, if_neg (by decide)]) ?_
    refine Ev.bind (seal_spec l wide hb (by omega)) ?_
    have hlen := sealv_length l wide
    have hsb := sealv_bytes hb wide
    have ho := open_spec (sealv l wide) wide hsb (by rw [hlen]; omega)
    rw [open_sealv l wide hb] at ho
    have hg := good_sealv l wide hb
    have hgs := good_spec (sealv l wide) wide hsb
    rw [hg] at hgs
    have hpos : 1 ≤ sizeN wide := by cases wide <;> decide
    have e1 : wrap64 (8 * (sizeN wide : Int)) = (wid wide : Int) := by
      rw [w64 (by omega) (by omega), wid_size]
      omega
    have e2 : (((sealv l wide).length : Int) != wrap64 ((l.length : Int) + (sizeN wide : Int))) = false := by
      rw [w64 (by omega) (by omega), hlen]
      simp
    simp only [ho, size_nat, Option.bind_some, if_true, hgs, e1, e2]
    have h8 : wrap64 (8 * ((sealv l wide).length : Int)) = ((8 * (sealv l wide).length : Nat) : Int) := by
      rw [w64 (by omega) (by omega)]
      omega
    have e3 : Int.tmod (wrap64 (at_ : Int)) ((8 * (sealv l wide).length : Nat) : Int) = ((at_ % (8 * (sealv l wide).length) : Nat) : Int) := by
      rw [w64 (by omega) (by omega), Int.tmod_eq_emod_of_nonneg (by omega)]
      rfl
    refine Ev.step (fun k => by rw [umpirelaw04_FcsGood.j1, if_neg (by decide), h8, if_neg (by omega), e3]) ?_
    have hf : at_ % (8 * (sealv l wide).length) < 8 * (sealv l wide).length := Nat.mod_lt _ (by omega)
    have h := turn_loop (sealv l wide) wide (at_ % (8 * (sealv l wide).length)) T hg (by rw [hlen]; omega) (by omega) (wid wide) 0 (sealv l wide) (by omega) (by omega) (by omega) rfl hsb (by unfold Turned; rw [Nat.pow_zero, Nat.mod_one, Nat.zero_mul, Nat.xor_zero])
    have e9 : some_ T 0 = false := by
      unfold some_
      rw [Nat.pow_zero, Nat.mod_one]
      rfl
    rw [e9] at h
    exact h
end Go.Proofs.Ytnokndhppdkmdaa.Pure
