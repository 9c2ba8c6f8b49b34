-- laid together by this session's own program (wip/tools/merge.py) of texts that its program laid
import Derived.Test.YtgnonglkibhnhaaDoorZ
namespace Go.Proofs.YtgnonglkibhnhaaDoor.Print
open Go.RowKit Go.Proofs.YtgnonglkibhnhaaDoorW.PrintWords Go.Proofs.YtgnonglkibhnhaaDoorW.PrintLast Go.Proofs.YtgnonglkibhnhaaDoorW.PrintMore
attribute [local go_sem] a0d a0e a0V a0W X5 X6 a0f a0g
set_option linter.unusedVariables false
set_option linter.unusedSimpArgs false
set_option maxHeartbeats 16000000
set_option maxRecDepth 100000
def P8.l0 : Nat → List (S42) → Int → Int → Option (Bool)
 | 0, _, _, _ => none
 | k + 1, x0, x3, x4 => if x4 < (x0.length : Int) then (if x4 < 100 then (if 0 ≤ x4 then (P8.l0 k x0 (wrap64 (x3 + (mn (((y7 x0 x4).f2).length : Int) 100000))) (wrap64 (x4 + 1))) else (none)) else (if (x0.length : Int) ≤ 60 then (some (decide (x3 ≤ 70000))) else (some false))) else (if (x0.length : Int) ≤ 60 then (some (decide (x3 ≤ 70000))) else (some false))
def P8.f (k : Nat) (l0 : List (S42)) : Option (Bool) := P8.l0 k l0 0 0
theorem P8.calls (k : Nat) (A0 : Option Addr) (c0 : Nat) (l0 : List (S42)) (r : Bool) (w : World) (hr0 : Kd.C k42 w A0 l0.length l0) (hc0 : l0.length ≤ c0) (h : P8.f k l0 = some r) :
  Calls Tryd.prog 13 #[.slice A0 l0.length c0] w fun e w' => e = .returned (.bool r) ∧ Below w.heap.size w w' := by
 have HR0 := a_ hr0
 have HC0 := a_ hc0
 clear hr0 hc0
 have HB := a_ (Below.refl w.heap.size w)
 have H := h
 clear h
 unfold P8.f at H
 have H' := a_ H
 clear H
 go_enter Tryd.func13, Tryd.ntmps13
 go_wp2
 go_loopg [3, 4] k (fun kq v3 v4 w' => ∃ (a5C : Int) (a4z : Int), v3 = .int .i64 a5C ∧ v4 = .int .i64 a4z ∧ Aside0 (P8.l0 kq l0 a5C a4z = some r) ∧ Aside0 (kq ≤ k) ∧ Aside0 (Below w.heap.size w w'))
 case atStart => exact ⟨(0), (0), (by rfl), (by rfl), H', ⟨Nat.le_refl _⟩, ⟨by exact HB.out⟩⟩
 case round =>
  clear H'; obtain ⟨a5C, a4z, rfl, rfl, HA, HK1, HB⟩ := hrel
  cases gk with
  | zero => exact absurd HA.out (by simp [P8.l0])
  | succ k1 =>
   have H := HA.out; clear HA
   simp only [P8.l0] at H
   by_cases c2 : a4z < (l0.length : Int)
   ·rw [if_pos c2] at H; have a7Y := dt_ c2; clear c2
    by_cases c3 : a4z < 100
    ·rw [if_pos c3] at H; have a3w := dt_ c3; clear c3; have a3x := a2Q H; replace H := O6 H; obtain ⟨ji5, c9E⟩ := si_ ((mn (((y7 l0 a4z).f2).length : Int) 100000)); rw [c9E] at H; have e9u : (if 100000 < (((y7 l0 a4z).f2).length : Int) then 100000 else (((y7 l0 a4z).f2).length : Int)) = ji5 := c9E; have H' := a_ H; clear H; have e4f : 0 ≤ (a4z : Int) := U9; have e4g : a4z < (l0.length : Int) := U9; obtain ⟨g5g, g1w, g1x, g1y, c6U, c6V, c6W, c6X, c6Y⟩ := a0I HR0.out a4z e4f e4g
     cases g1y
     replace c6U := J9 HB c6U; replace c6V := J9 HB c6V; replace c6W := J9 HB c6W; have f4Q := a_ c6Y; have f4R := a_ c6X; clear c6Y c6X; replace e4f := eq_true e4f; replace e4g := eq_true e4g
     go_wp2
     go_roundg k1
     case measure => have := HK1.out; omega
     case rel => exact ⟨(wrap64 (a5C + (ji5))), (wrap64 (a4z + 1)), (by rfl), (by rfl), H', ⟨by have := HK1.out; omega⟩, ⟨by exact HB.out⟩⟩
    ·rw [if_neg c3] at H; have a3w := df_ c3; clear c3
     by_cases c6 : (l0.length : Int) ≤ 60
     ·rw [if_pos c6] at H; have a5Y := dt_ c6; have b2w : decide (l0.length ≤ 60) = true := dt_ (by omega); clear c6; obtain rfl := oj_ H
      go_wp2
      go_ret
      exact ⟨by (rfl), by exact HB.out⟩
     ·rw [if_neg c6] at H; have a5Y := df_ c6; have b2w : decide (l0.length ≤ 60) = false := df_ (by omega); clear c6; obtain rfl := oj_ H
      go_wp2
      go_ret
      exact ⟨by (rfl), by exact HB.out⟩
   ·rw [if_neg c2] at H; have a7Y := df_ c2; clear c2
    by_cases c7 : (l0.length : Int) ≤ 60
    ·rw [if_pos c7] at H; have a5H := dt_ c7; have b3Y : decide (l0.length ≤ 60) = true := dt_ (by omega); clear c7; obtain rfl := oj_ H
     go_wp2
     go_ret
     exact ⟨by (rfl), by exact HB.out⟩
    ·rw [if_neg c7] at H; have a5H := df_ c7; have b3Y : decide (l0.length ≤ 60) = false := df_ (by omega); clear c7; obtain rfl := oj_ H
     go_wp2
     go_ret
     exact ⟨by (rfl), by exact HB.out⟩
theorem F5.b2Q.calls (w : World) : Calls Tryd.prog 129 #[.agg #[]] w fun e w' => e = .returned (.int .i64 1) ∧ Below w.heap.size w w' := by
 go_enter Tryd.func129, Tryd.ntmps129
 go_wp2
 go_ret
 exact ⟨rfl, Z7 (Below.refl w.heap.size w) _⟩
theorem F5.b61.calls (w : World) : Calls Tryd.prog 130 #[.agg #[]] w fun e w' => e = .returned (.int .i64 2) ∧ Below w.heap.size w w' := by
 go_enter Tryd.func130, Tryd.ntmps130
 go_wp2
 go_ret
 exact ⟨rfl, Z7 (Below.refl w.heap.size w) _⟩
def F5.form (j : Nat) : Value := match j with | 0 => .iface 65 (.agg #[]) | 1 => .iface 67 (.agg #[]) | _ => .nilIface
def F5.at (a0 : Int) : Nat := if a0 = 1 then 0 else if a0 = 2 then 1 else 2
structure F5.Round (w W : World) (gq : Nat) (a0 : Int) (j : Nat) : Prop where
 hr : W.heap[gq]? = some (.cells #[.iface 65 (.agg #[]), .iface 67 (.agg #[])] 62 (0, 0))
 hb : Below w.heap.size w W
 hl : j ≤ F5.at a0
theorem F5.calls (a0 : Int) (w : World) :
  Calls Tryd.prog 22 #[.int .i64 a0] w fun e w' => e = .returned (F5.form (F5.at a0)) ∧ Below w.heap.size w w' := by
 have HB0 := a_ (Below.refl w.heap.size w)
 go_enter Tryd.func22, Tryd.ntmps22
 go_wp2
 obtain ⟨gq, hgq⟩ : ∃ gq, gq = w.heap.size := ⟨_, rfl⟩
 have BR := a_ (a8n w (Obj.cells #[.iface 65 (.agg #[]), .iface 67 (.agg #[])] 62))
 have HB2 := a_ (Z7 HB0.out (Obj.cells #[.iface 65 (.agg #[]), .iface 67 (.agg #[])] 62))
 rw [← hgq] at BR ⊢
 generalize hw2 : w.alloc (Obj.cells #[.iface 65 (.agg #[]), .iface 67 (.agg #[])] 62) = w2 at BR HB2 ⊢
 clear hw2 HB0 hgq
 go_loopg [11] 2 (fun kq v11 w' => ∃ j : Nat, kq + j = 2 ∧ v11 = .int .i64 (j : Int) ∧ Aside0 (F5.Round w w' gq a0 j))
 case atStart => exact ⟨0, rfl, rfl, ⟨⟨BR.out, HB2.out, Nat.zero_le _⟩⟩⟩
 case round =>
  obtain ⟨j, hj, rfl, HI⟩ := hrel; clear BR HB2; have HK := a_ HI.out.hr; have HB := a_ HI.out.hb; have HL := a_ HI.out.hl; clear HI
  rcases (show j = 0 ∨ j = 1 ∨ j = 2 by omega) with rfl | rfl | rfl
  ·obtain ⟨k1, rfl⟩ : ∃ k1, gk = k1 + 1 := ⟨gk - 1, by omega⟩; have hm0 : ∀ w : World, (method 145 65 (.agg #[]) "umpire/capture.name").run Tryd.prog w = .ok (129, .agg #[]) w := fun _ => by kernel_rfl
   have hcq := bc0 HK; have hv : ((0 : Nat) : Int) = 0 := rfl
   simp only [hv]
   by_cases c1 : a0 = 1
   ·subst c1
    go_wp2_with (fail)
    refine (F5.b2Q.calls _).mono ?_; rintro e w1 ⟨rfl, hb⟩; have HB1 := Q8 HB hb; clear hb
    go_wp2_with (fail)
    go_ret
    exact ⟨rfl, HB1.out⟩
   ·have c1b : ((1 : Int) == a0) = false := by simpa using (fun h => c1 h.symm)
    go_wp2_with (fail)
    refine (F5.b2Q.calls _).mono ?_; rintro e w1 ⟨rfl, hb⟩; have HB1 := Q8 HB hb; have HK1 := X8 HK hb; clear hb HK HB hcq
    go_wp2_with (fail)
    go_roundg k1
    case measure => omega
    case rel => exact ⟨1, by omega, rfl, ⟨⟨HK1.out, HB1.out, by unfold F5.at; rw [if_neg c1]; split <;> omega⟩⟩⟩
  ·obtain ⟨k1, rfl⟩ : ∃ k1, gk = k1 + 1 := ⟨gk - 1, by omega⟩; have hm0 : ∀ w : World, (method 145 67 (.agg #[]) "umpire/capture.name").run Tryd.prog w = .ok (130, .agg #[]) w := fun _ => by kernel_rfl
   have hcq := bc1 HK; have hv : ((1 : Nat) : Int) = 1 := rfl
   simp only [hv]
   have c0 : a0 ≠ 1 := fun h => by have h1 := HL.out; rw [h] at h1; exact absurd h1 (by decide)
   by_cases c1 : a0 = 2
   ·subst c1
    go_wp2_with (fail)
    refine (F5.b61.calls _).mono ?_; rintro e w1 ⟨rfl, hb⟩; have HB1 := Q8 HB hb; clear hb
    go_wp2_with (fail)
    go_ret
    exact ⟨rfl, HB1.out⟩
   ·have c1b : ((2 : Int) == a0) = false := by simpa using (fun h => c1 h.symm)
    go_wp2_with (fail)
    refine (F5.b61.calls _).mono ?_; rintro e w1 ⟨rfl, hb⟩; have HB1 := Q8 HB hb; have HK1 := X8 HK hb; clear hb HK HB hcq
    go_wp2_with (fail)
    go_roundg k1
    case measure => omega
    case rel => exact ⟨2, by omega, rfl, ⟨⟨HK1.out, HB1.out, by unfold F5.at; rw [if_neg c0, if_neg c1]; omega⟩⟩⟩
  ·have hv : ((2 : Nat) : Int) = 2 := rfl
   simp only [hv]
   have EA : Aside0 (F5.at a0 = 2) := ⟨by have h := HL.out; unfold F5.at at h ⊢; revert h; split; (intro h; omega); split <;> omega⟩
   go_wp2_with (fail)
   go_ret
   exact ⟨by rw [EA.out]; rfl, HB.out⟩
theorem b2m (v : Value) (w : World) : (Instr.typeAssert (.iface 65 v) 62 65 true).run Tryd.prog w = .ok (.tuple #[v, .bool true]) w := by
 simp [Instr.typeAssert, run_underlying Tryd.underlying65, go_sem, Result.andThen]
theorem b0M (v : Value) (w : World) : (Instr.typeAssert (.iface 67 v) 62 65 true).run Tryd.prog w = .ok (.tuple #[.agg #[], .bool false]) w := by
 simp [Instr.typeAssert, run_underlying Tryd.underlying65, go_sem, Result.andThen]
theorem b0N (w : World) : (Instr.typeAssert .nilIface 62 65 true).run Tryd.prog w = .ok (.tuple #[.agg #[], .bool false]) w := by
 simp [Instr.typeAssert, run_underlying Tryd.underlying65, go_sem, Result.andThen]
theorem b2n (v : Value) (w : World) : (Instr.typeAssert (.iface 67 v) 62 67 true).run Tryd.prog w = .ok (.tuple #[v, .bool true]) w := by
 simp [Instr.typeAssert, run_underlying Tryd.underlying67, go_sem, Result.andThen]
theorem b0O (v : Value) (w : World) : (Instr.typeAssert (.iface 65 v) 62 67 true).run Tryd.prog w = .ok (.tuple #[.agg #[], .bool false]) w := by
 simp [Instr.typeAssert, run_underlying Tryd.underlying67, go_sem, Result.andThen]
theorem b0P (w : World) : (Instr.typeAssert .nilIface 62 67 true).run Tryd.prog w = .ok (.tuple #[.agg #[], .bool false]) w := by
 simp [Instr.typeAssert, run_underlying Tryd.underlying67, go_sem, Result.andThen]
theorem b7E (v : Value) (w : World) : (Instr.typeAssert (.iface 65 v) 62 65 false).run Tryd.prog w = .ok v w := by
 simp [Instr.typeAssert, run_underlying Tryd.underlying65, go_sem, Result.andThen]
def Z4.f (a0 : Int) : Option (Bool) := if a0 ≥ 1 then (if a0 ≤ 65535 then (if (Go.bits .and .i64 a0 1) = 1 then (if (Go.bits .and .i64 a0 256) = 0 then (some (a0 != 255)) else (some false)) else (some false)) else (some false)) else (some false)
theorem Z4.calls (a0 : Int) (r : Bool) (w : World) (h : Z4.f a0 = some r) :
  Calls Tryd.prog 33 #[.int .i64 a0] w fun e w' => e = .returned (.bool r) ∧ G6 w w' := by
 have H := h
 clear h
 unfold Z4.f at H
 by_cases c2 : a0 ≥ 1
 ·rw [if_pos c2] at H; have a7Y : decide (1 ≤ a0) = true := dt_ c2; clear c2
  by_cases c3 : a0 ≤ 65535
  ·rw [if_pos c3] at H; have a3w := dt_ c3; clear c3
   by_cases c4 : (Go.bits .and .i64 a0 1) = 1
   ·rw [if_pos c4] at H; obtain ⟨a3x, a9S⟩ := bt_ c4; clear c4
    by_cases c5 : (Go.bits .and .i64 a0 256) = 0
    ·rw [if_pos c5] at H; obtain ⟨a7h, b3X⟩ := bt_ c5; clear c5; obtain rfl := oj_ H
     go_enter Tryd.func33, Tryd.ntmps33
     go_wp2
     go_ret
     exact ⟨by (rfl), by exact G6.refl _⟩
    ·rw [if_neg c5] at H; have a7h := bq_ c5; have b3X := bn_ c5; obtain rfl := oj_ H
     go_enter Tryd.func33, Tryd.ntmps33
     go_wp2
     go_ret
     exact ⟨by (rfl), by exact G6.refl _⟩
   ·rw [if_neg c4] at H; have a3x := bq_ c4; have a9S := bn_ c4; obtain rfl := oj_ H
    go_enter Tryd.func33, Tryd.ntmps33
    go_wp2
    go_ret
    exact ⟨by (rfl), by exact G6.refl _⟩
  ·rw [if_neg c3] at H; have a3w := df_ c3; clear c3; obtain rfl := oj_ H
   go_enter Tryd.func33, Tryd.ntmps33
   go_wp2
   go_ret
   exact ⟨by (rfl), by exact G6.refl _⟩
 ·rw [if_neg c2] at H; have a7Y : decide (1 ≤ a0) = false := df_ c2; clear c2; obtain rfl := oj_ H
  go_enter Tryd.func33, Tryd.ntmps33
  go_wp2
  go_ret
  exact ⟨by (rfl), by exact G6.refl _⟩
def a1C.f (G8 : Int) (O9 : Int) (U5 : List Int) : Option (Bool) := if G8 = 1 then ((Z4.f O9).bind fun t208 => (if t208 = true then (some (decide ((U5.length : Int) ≤ 65531))) else (some false))) else (if G8 = 2 then ((Z4.f O9).bind fun e4h => (if e4h = true then (some (decide ((U5.length : Int) ≤ 65531))) else (some false))) else (some false))
theorem a1C.calls (G8 : Int) (O9 : Int) (a3h : Option Addr) (a3i : Nat) (U5 : List Int) (r : Bool) (w : World) (a4N : Kd.C (Kd.int .u8) w a3h U5.length U5) (a4O : U5.length ≤ a3i) (h : a1C.f G8 O9 U5 = some r) :
  Calls Tryd.prog 16 #[.agg #[.int .i64 G8, .int .i64 O9, .slice a3h U5.length a3i]] w fun e w' => e = .returned (.bool r) ∧ Below w.heap.size w w' := by
 have b8P := Tryd.underlying42
 have b2I := a_ a4N
 have b8e := a_ a4O
 clear a4N a4O
 have HB := a_ (Below.refl w.heap.size w)
 have H := h
 clear h
 unfold a1C.f at H
 by_cases c2 : G8 = 1
 ·rw [if_pos c2] at H; obtain ⟨a7Y, c1x⟩ := bt_ c2; clear c2; obtain ⟨t208, A3, H⟩ := bd_ H
  try dsimp only at H
  by_cases c4 : t208 = true
  ·subst c4; rw [if_pos rfl] at H; obtain rfl := oj_ H
   go_enter Tryd.func16, Tryd.ntmps16
   go_wp2_with (first | ((with_reducible refine N7 (N := 1) rfl ?_); (try (refine V3 (by rfl) ?_; dsimp only)); refine be_ 1 #[.int .i64 G8, .int .i64 O9, .slice a3h U5.length a3i] 42 ?_; intro c6Z hg w5 hbox hb; have b2R := a_ hbox; have c60 := lb_ HB hg; replace HB := Q8 HB hb; clear hb hbox hg; obtain ⟨b9f, b9g, b9h, b9i, b9j, b9k⟩ := a0u b2R.out) | (go_at_call 33; (with_reducible refine (Z4.calls O9 true _ A3.out).mono ?_); rintro e w' ⟨rfl, ⟨nd, rfl⟩⟩))
   go_ret
   exact ⟨by (rfl), by repeat (with_reducible first | exact HB.out | apply y5)⟩
  ·cases nt_ c4
   rw [if_neg a2O] at H; obtain rfl := oj_ H
   go_enter Tryd.func16, Tryd.ntmps16
   go_wp2_with (first | ((with_reducible refine N7 (N := 1) rfl ?_); (try (refine V3 (by rfl) ?_; dsimp only)); refine be_ 1 #[.int .i64 G8, .int .i64 O9, .slice a3h U5.length a3i] 42 ?_; intro c6Z hg w7 hbox hb; have b2R := a_ hbox; have c60 := lb_ HB hg; replace HB := Q8 HB hb; clear hb hbox hg; obtain ⟨d3k, d3l, d3m, d3n, d3o, d3p⟩ := a0u b2R.out) | (go_at_call 33; (with_reducible refine (Z4.calls O9 false _ A3.out).mono ?_); rintro e w' ⟨rfl, ⟨nd, rfl⟩⟩))
   go_ret
   exact ⟨by (rfl), by repeat (with_reducible first | exact HB.out | apply y5)⟩
 ·rw [if_neg c2] at H; have a7Y := bq_ c2; have c1x := bn_ c2
  by_cases c9 : G8 = 2
  ·rw [if_pos c9] at H; obtain ⟨a6P, b1o⟩ := bt_ c9; clear c9; obtain ⟨e4h, A10, H⟩ := bd_ H
   try dsimp only at H
   by_cases c11 : e4h = true
   ·subst c11; rw [if_pos rfl] at H; obtain rfl := oj_ H
    go_enter Tryd.func16, Tryd.ntmps16
    go_wp2_with (first | ((with_reducible refine N7 (N := 1) rfl ?_); (try (refine V3 (by rfl) ?_; dsimp only)); refine be_ 1 #[.int .i64 G8, .int .i64 O9, .slice a3h U5.length a3i] 42 ?_; intro c6Z hg w12 hbox hb; have b2R := a_ hbox; have c60 := lb_ HB hg; replace HB := Q8 HB hb; clear hb hbox hg; obtain ⟨b2K, b2L, b45, b2M, b2N, b46⟩ := a0u b2R.out) | (go_at_call 33; (with_reducible refine (Z4.calls O9 true _ A10.out).mono ?_); rintro e w' ⟨rfl, ⟨nd, rfl⟩⟩))
    go_ret
    exact ⟨by (rfl), by repeat (with_reducible first | exact HB.out | apply y5)⟩
   ·cases nt_ c11
    rw [if_neg a2O] at H; obtain rfl := oj_ H
    go_enter Tryd.func16, Tryd.ntmps16
    go_wp2_with (first | ((with_reducible refine N7 (N := 1) rfl ?_); (try (refine V3 (by rfl) ?_; dsimp only)); refine be_ 1 #[.int .i64 G8, .int .i64 O9, .slice a3h U5.length a3i] 42 ?_; intro c6Z hg w14 hbox hb; have b2R := a_ hbox; have c60 := lb_ HB hg; replace HB := Q8 HB hb; clear hb hbox hg; obtain ⟨c6z, c6A, c6B, c6C, c6D, c6E⟩ := a0u b2R.out) | (go_at_call 33; (with_reducible refine (Z4.calls O9 false _ A10.out).mono ?_); rintro e w' ⟨rfl, ⟨nd, rfl⟩⟩))
    go_ret
    exact ⟨by (rfl), by repeat (with_reducible first | exact HB.out | apply y5)⟩
  ·rw [if_neg c9] at H; have a6P := bq_ c9; have b1o := bn_ c9; obtain rfl := oj_ H
   go_enter Tryd.func16, Tryd.ntmps16
   go_wp2_with (first | ((with_reducible refine N7 (N := 1) rfl ?_); (try (refine V3 (by rfl) ?_; dsimp only)); refine be_ 1 #[.int .i64 G8, .int .i64 O9, .slice a3h U5.length a3i] 42 ?_; intro c6Z hg w16 hbox hb; have b2R := a_ hbox; have c60 := lb_ HB hg; replace HB := Q8 HB hb; clear hb hbox hg; obtain ⟨b47, b48, b49, b5a, b5b, b5c⟩ := a0u b2R.out))
   go_ret
   exact ⟨by (rfl), by exact HB.out⟩
theorem H7.bad (x : S42) (A : Option Addr) (c : Nat) (t : Bool) (w : World) (hr : Kd.C (Kd.int .u8) w A x.f2.length x.f2) (hc : x.f2.length ≤ c) (h : a1C.f x.f0 x.f1 x.f2 = some t) :
  Calls Tryd.prog 28 #[.agg #[.int .i64 x.f0, .int .i64 x.f1, .slice A x.f2.length c]] w fun e w' => e = .returned (.bool (!t)) ∧ Below w.heap.size w w' := by
 have b8P := Tryd.underlying42
 have HR := a_ hr
 have HC := a_ hc
 have HT := a_ h
 have HB := a_ (Below.refl w.heap.size w)
 clear hr hc h
 go_enter Tryd.func28, Tryd.ntmps28
 go_wp2_with (first | (refine be_ 1 #[.int .i64 x.f0, .int .i64 x.f1, .slice A x.f2.length c] 42 ?_; intro g1 hg w3 hbox hb; have HB3 := Q8 HB hb; have BK3 := a_ hbox; obtain ⟨g5h, g5i, g5j⟩ := g1z BK3.out; clear hg hbox hb) | (go_at_call 16; refine (a1C.calls x.f0 x.f1 A c x.f2 t _ (Kd.E8 HR.out HB3.out) HC.out HT.out).mono ?_; rintro e w4 ⟨rfl, hb⟩; have HB4 := Q8 HB3 hb; clear hb))
 go_ret
 exact ⟨rfl, HB4.out⟩
def H7.go : List (S42) → Nat → Option Int
 | [], _ => some (-1)
 | x :: m, j => (a1C.f x.f0 x.f1 x.f2).bind fun t => if t = true then H7.go m (j + 1) else some (j : Int)
theorem H7.b62 (l : List (S42)) (j : Nat) (h : j < l.length) : l.drop j = y7 l (j : Int) :: l.drop (j + 1) := by
 rw [List.drop_eq_getElem_cons h]
 unfold y7
 rw [Int.toNat_natCast, List.getD_eq_getElem?_getD, List.getElem?_eq_getElem h]
 rfl
theorem H7.calls (A0 : Option Addr) (c0 : Nat) (l0 : List (S42)) (r : Int) (w : World) (hr0 : Kd.C k42 w A0 l0.length l0) (hc0 : l0.length ≤ c0) (h : H7.go l0 0 = some r) :
  Calls Tryd.prog 49 #[.slice A0 l0.length c0, .func (.func 28) #[] #[]] w fun e w' => e = .returned (.int .i64 r) ∧ Below w.heap.size w w' := by
 have hml := Kd.b7K hr0
 have HR := a_ hr0
 have HG : Aside0 (H7.go (l0.drop 0) 0 = some r) := ⟨by rw [List.drop_zero]; exact h⟩
 have HB := a_ (Below.refl w.heap.size w)
 clear hr0 hc0 h
 go_enter Tryd.func49, Tryd.ntmps49
 go_wp2
 go_loopg [8] l0.length (fun kq v8 w' => ∃ j : Nat, kq + j = l0.length ∧ v8 = .int .i64 (j : Int) ∧ Aside0 (Below w.heap.size w w') ∧ Aside0 (H7.go (l0.drop j) j = some r))
 case atStart => exact ⟨0, rfl, rfl, HB, HG⟩
 case round =>
  obtain ⟨j, hj, rfl, HI, HGJ⟩ := hrel; clear HB HG
  by_cases hlt : j < l0.length
  ·obtain ⟨k1, rfl⟩ : ∃ k1, gk = k1 + 1 := ⟨gk - 1, by omega⟩; have c1_ : decide ((j : Int) < (l0.length : Int)) = true := dt_ (by omega); have p1_ : (0 : Int) ≤ (j : Int) := by omega
   have q1_ : (j : Int) < (l0.length : Int) := by omega
   obtain ⟨ad, Ax, cx, e0, hx0, hx1, hx2, hlx, hix⟩ := a0I HR.out (j : Int) p1_ q1_; have hgo := HGJ.out; rw [H7.b62 l0 j hlt, H7.go] at hgo; generalize y7 l0 (j : Int) = x at hx0 hx1 hx2 hlx hix hgo
   cases e0
   rw [Int.toNat_natCast] at hx0 hx1 hx2; replace hx0 := J9 HI hx0; replace hx1 := J9 HI hx1; replace hx2 := J9 HI hx2; have HIX := a_ (Kd.E8 hix HI.out); have HLX := a_ hlx; obtain ⟨t, ht, hgo⟩ := Option.bind_eq_some_iff.1 hgo; have HT := a_ ht; have HGN := a_ hgo; clear hlx hix HGJ hgo ht
   go_wp2_with (fail)
   refine (H7.bad x Ax cx t _ HIX.out HLX.out HT.out).mono ?_; rintro e w2 ⟨rfl, hb⟩; have HB2 := Q8 HI hb; clear hb hx0 hx1 hx2
   cases t with
   | true =>
    have hgo := HGN.out; rw [if_pos rfl] at hgo; have HGO := a_ hgo; clear HGN hgo
    go_wp2
    go_roundg k1
    case measure => omega
    case rel => exact ⟨j + 1, by omega, by go_num, HB2, HGO⟩
   | false =>
    have hgo := HGN.out; rw [if_neg (by decide)] at hgo; obtain rfl := oj_ hgo
    go_wp2
    go_ret
    exact ⟨rfl, HB2.out⟩
  ·have c1_ : decide ((j : Int) < (l0.length : Int)) = false := df_ (by omega); have hgo := HGJ.out; rw [List.drop_of_length_le (by omega), H7.go] at hgo; obtain rfl := oj_ hgo
   go_wp2
   go_ret
   exact ⟨rfl, HI.out⟩
theorem a1U.calls (A0 : Option Addr) (c0 : Nat) (l0 : List (S42)) (r : Int) (w : World) (hr0 : Kd.C k42 w A0 l0.length l0) (hc0 : l0.length ≤ c0) (h : H7.go l0 0 = some r) :
  Calls Tryd.prog 27 #[.slice A0 l0.length c0, .func (.func 28) #[] #[]] w fun e w' => e = .returned (.bool (decide (0 ≤ r))) ∧ Below w.heap.size w w' := by
 have HR := a_ hr0
 have HC := a_ hc0
 have HT := a_ h
 clear hr0 hc0 h
 go_enter Tryd.func27, Tryd.ntmps27
 go_wp2_with (go_at_call 49; refine (H7.calls A0 c0 l0 r _ HR.out HC.out HT.out).mono ?_; rintro e w4 ⟨rfl, hb⟩; have HB4 := a_ hb; clear hb)
 go_ret
 exact ⟨by first | rfl | simp [ge_iff_le], HB4.out⟩
theorem a9m.c9F (n : Nat) (w : World) (hn : n < 140737488355328) :
  Calls Tryd.prog 91 #[.slice none 0 0, .int .i64 (n : Int)] w fun e w' => ∃ v0_ : Value, e = .returned (v0_) ∧ Kd.R (Kd.int .u8) 5 w' w.heap.size (fun _ => True) v0_ [] ∧ Below w.heap.size w w' := by
 have HB := a_ (Below.refl w.heap.size w)
 have h0 : decide ((n : Int) < 0) = false := df_ (by omega)
 have HN := a_ hn
 have hb1 : (n : Int) ≤ 140737488355328 := by omega
 clear hn
 by_cases hz : 0 < (n : Int)
 ·have hz1 : decide (0 < (n : Int)) = true := dt_ hz
  go_enter Tryd.func91, Tryd.ntmps91
  go_wp2_with ((with_reducible refine D6 (b := .append) (xs := #[.tmp 20, .tmp 21]) rfl ?_); at_builtin; refine Kd.b59 (Kd.int .u8) (w0 := w) w.heap.size rfl (.tmp 20) (.tmp 21) 22 3 5 (.int .u8 0) 1 rfl Tryd.underlying22 Tryd.underlying3 info5 rfl (by decide) (by omega) (.slice none 0 0) ([] : List Int) 0 (kx := .i64) (n : Int) (fun _ => True) rfl rfl ?aZ (fun _ _ => trivial) (Kd.Y4 _ _ _ _ _) (by omega) ?aB ?aS ?aL ?_; (case aZ => rfl); (case aB => exact HB.out); (case aS => exact Nat.le_refl _); (case aL => have := HN.out; simp only [List.length_nil]; omega); intro v1 w1 ho hb hg hat; have n0_ := a_ hb; have n1_ := a_ ho; clear ho hb hg hat HB; have HB := n0_; have HO := n1_; clear n0_ n1_; obtain ⟨A1, c1, eo⟩ := Kd.H6 HO.out; subst eo)
  go_ret
  exact ⟨_, rfl, Kd.d0j (m := 0) HO.out (Nat.zero_le _), HB.out⟩
 ·have hz1 : decide (0 < (n : Int)) = false := df_ hz
  go_enter Tryd.func91, Tryd.ntmps91
  go_wp2
  go_ret
  exact ⟨_, rfl, Kd.Y4 _ _ _ _ _, HB.out⟩
def o7.f (l0 : List (List Int)) : Option (List Int) := if l0.flatten.length < 140737488355328 then some l0.flatten else none
def o7.tot (l : List (List Int)) (j : Nat) : Nat := (l.take j).flatten.length
def o7.pre (l : List (List Int)) (j : Nat) : List Int := (l.take j).flatten
theorem o7.b8f (l : List (List Int)) (j : Nat) (h : j < l.length) : o7.pre l (j + 1) = o7.pre l j ++ a0X l (j : Int) := by
 unfold o7.pre a0X
 rw [List.take_succ_eq_append_getElem h, List.flatten_append]
 simp [h]
theorem o7.c1S (l : List (List Int)) (j : Nat) (h : j < l.length) : o7.tot l (j + 1) = o7.tot l j + (a0X l (j : Int)).length := by
 have := congrArg List.length (o7.b8f l j h)
 rw [List.length_append] at this
 exact this
theorem o7.d8j (l : List (List Int)) (j : Nat) (h : j = l.length) : o7.tot l j = l.flatten.length := by
 unfold o7.tot
 rw [List.take_of_length_le (by omega)]
theorem o7.b9v (l : List (List Int)) (j : Nat) : o7.tot l j ≤ l.flatten.length := by
 unfold o7.tot
 conv => rhs; rw [← List.take_append_drop j l, List.flatten_append, List.length_append]
 omega
theorem o7.calls (A0 : Option Addr) (c0 : Nat) (l0 : List (List Int)) (r : List Int) (w : World) (hr0 : Kd.C (Kd.slice 5 (Kd.int .u8)) w A0 l0.length l0) (hc0 : l0.length ≤ c0) (h : o7.f l0 = some r) :
  Calls Tryd.prog 73 #[.slice A0 l0.length c0] w fun e w' => ∃ v0_ : Value, e = .returned (v0_) ∧ Kd.R (Kd.int .u8) 5 w' w.heap.size (fun _ => True) v0_ r ∧ Below w.heap.size w w' := by
 obtain ⟨hl, rfl⟩ : l0.flatten.length < 140737488355328 ∧ l0.flatten = r := by
  unfold o7.f at h
  split at h
  ·exact ⟨by assumption, oj_ h⟩
  ·cases h
 have HR0 := a_ hr0
 have HC0 := a_ hc0
 have HB := a_ (Below.refl w.heap.size w)
 have HL := a_ hl
 have HN := a_ hr0.2.1
 clear h hl hr0 hc0
 go_enter Tryd.func73, Tryd.ntmps73
 go_wp2
 go_loop [3, 11] (fun v3 v11 => ∃ j : Nat, j ≤ l0.length ∧ v11 = .int .i64 (j : Int) ∧ v3 = .int .i64 (o7.tot l0 j : Int)) (fun _ v11 => l0.length - (intOf v11).toNat)
 case atStart => exact ⟨0, Nat.zero_le _, rfl, rfl⟩
 case round =>
  obtain ⟨j, hj, rfl, rfl⟩ := hrel; have ht := Nat.lt_of_le_of_lt (o7.b9v l0 j) HL.out; have hn := HN.out
  by_cases hlt : j < l0.length
  ·have e4i : 0 ≤ (j : Int) := by omega
   have e4j : (j : Int) < (l0.length : Int) := by omega
   obtain ⟨e9v, e4k, e4l, e304, b2S, c61, b9w⟩ := a7N HR0.out (j : Int) e4i e4j
   cases e304
   simp only [Int.toNat_natCast] at b2S
   have hs := o7.c1S l0 j hlt; have ht2 := Nat.lt_of_le_of_lt (o7.b9v l0 (j + 1)) HL.out; have hW : wrap64 ((o7.tot l0 j : Int) + ((a0X l0 (j : Int)).length : Int)) = (o7.tot l0 j : Int) + ((a0X l0 (j : Int)).length : Int) := by
    unfold wrap64
    omega
   have hneg : decide (wrap64 ((o7.tot l0 j : Int) + ((a0X l0 (j : Int)).length : Int)) < 0) = false := by
    rw [hW]; exact df_ (by omega)
   have HS := a_ hs; have HW := a_ hW; clear hs ht ht2 hW
   go_wp2
   go_round
   case rel => exact ⟨j + 1, by omega, by go_num, by rw [HS.out, HW.out]; go_num⟩
   case measure => simp [intOf]; omega
  ·have ht' := o7.d8j l0 j (by omega); have HT := a_ ht'; clear ht' ht; have hg := Nat.lt_of_le_of_lt (o7.b9v l0 j) HL.out; obtain rfl : j = l0.length := by omega
   clear hlt hj hn
   go_wp2_with fail
   refine (a9m.c9F (o7.tot l0 l0.length) _ hg).mono ?_; rintro e w1 ⟨v6_, rfl, hR6, hB6⟩; clear hg; have a1X := a_ hR6; have HB1 := a_ hB6; clear hR6 hB6 HB
   go_wp2
   go_loopg [6, 27] l0.length (fun kq v6 v27 w' => ∃ j : Nat, Aside0 (kq + j = l0.length) ∧ v27 = .int .i64 (j : Int) ∧ Aside0 (Kd.R (Kd.int .u8) 5 w' w.heap.size (fun _ => True) v6 (o7.pre l0 j)) ∧ Aside0 (Below w.heap.size w w'))
   case atStart => exact ⟨0, ⟨rfl⟩, rfl, a1X, HB1⟩
   case round =>
    obtain ⟨j, HJ, rfl, e4m, HB⟩ := hrel; have hj := HJ.out; have hn := HN.out; have hjl : j ≤ l0.length := by omega
    by_cases hlt : j < l0.length
    ·obtain ⟨k1, rfl⟩ : ∃ k1, gk = k1 + 1 := ⟨gk - 1, by omega⟩; have e4i : 0 ≤ (j : Int) := by omega
     have e4j : (j : Int) < (l0.length : Int) := by omega
     obtain ⟨e9v, e4k, e4l, e304, b2S, c61, b9w⟩ := a7N HR0.out (j : Int) e4i e4j
     cases e304
     simp only [Int.toNat_natCast] at b2S
     replace b2S := J9 HB b2S; have d8k := a_ b9w; have HS := a_ (o7.b8f l0 j hlt); have LM : Aside0 ((o7.pre l0 j).length + (a0X l0 (j : Int)).length < 140737488355328) := ⟨by
      have h1 := o7.c1S l0 j hlt; have h2 := Nat.lt_of_le_of_lt (o7.b9v l0 (j + 1)) HL.out; unfold o7.tot at h1 h2; unfold o7.pre
      omega⟩
     clear b9w c61 hj
     go_wp2_with (((with_reducible refine D6 (b := .append) (xs := #[.tmp 31, .tmp 32]) rfl ?_); at_builtin; refine Kd.G9 (Kd.int .u8) (w0 := w) w.heap.size rfl (.tmp 31) (.tmp 32) 22 5 (.int .u8 0) 1 rfl Tryd.underlying22 info5 rfl (by decide) (by omega) u6 (o7.pre l0 j) (a0X l0 (j : Int)) _ _ _ (fun _ => True) (fun _ => False) rfl rfl ?aO ?aR (fun _ _ h => h) (fun _ h => h.elim) ?aF ?aB ?aS ?aL ?_; (case aR => exact (Kd.E8 d8k.out HB.out)); (case aB => exact HB.out); (case aF => exact (fun _ _ => trivial)); (case aO => exact e4m.out); (case aS => exact o9 HB.out); (case aL => have := LM.out; omega); intro g8K w5 ho hb hg hat; rw [← HS.out] at ho; have e9w := a_ ho; replace HB := a_ hb; clear e4m ho hb hg hat))
     go_roundg k1
     case measure => omega
     case rel => exact ⟨j + 1, ⟨by have := HJ.out; omega⟩, by go_num, e9w, HB⟩
    ·have hp : o7.pre l0 j = l0.flatten := by
      unfold o7.pre; rw [List.take_of_length_le (by omega)]
     have HP := a_ hp; clear hp hj
     go_wp2
     go_ret
     exact ⟨_, rfl, by rw [← HP.out]; exact e4m.out, HB.out⟩
def a3v.f (a0 : Int) (a1 : Int) : Option (Bool) := if a1 < 32 then (if 0 ≤ a1 then (some ((Go.bits .and .u32 (shr .u32 a0 a1) 1) == 1)) else (none)) else (some false)
theorem a3v.calls (a0 : Int) (a1 : Int) (r : Bool) (w : World) (h : a3v.f a0 a1 = some r) :
  Calls Tryd.prog 111 #[.int .u32 a0, .int .u8 a1] w fun e w' => e = .returned (.bool r) ∧ G6 w w' := by
 have H := h
 clear h
 unfold a3v.f at H
 by_cases c3 : a1 < 32
 ·rw [if_pos c3] at H; have a3w := dt_ c3; clear c3; have c4 := X4 H; replace H := O6 H; have a3x := eq_true c4; have a9S := dt_ c4; clear c4; obtain ⟨ji5, c9E⟩ := si_ ((shr .u32 a0 a1)); rw [c9E] at H; have e9u : (a0 / 2 ^ min a1.toNat 32) = ji5 := c9E; have g5m : a1 ≤ 32 → (a0 / 2 ^ a1.toNat) = ji5 := b3J c9E; obtain rfl := oj_ H
  go_enter Tryd.func111, Tryd.ntmps111
  go_wp2
  go_ret
  exact ⟨by (rfl), by exact G6.refl _⟩
 ·rw [if_neg c3] at H; have a3w := df_ c3; clear c3; obtain rfl := oj_ H
  go_enter Tryd.func111, Tryd.ntmps111
  go_wp2
  go_ret
  exact ⟨by (rfl), by exact G6.refl _⟩
def a2b.f (a0 : Int) (a1 : Int) : Option (Bool) := if a1 = 125 then (some true) else (if a1 = 126 then (some true) else ((a3v.f a0 a1).bind fun t210 => (some t210)))
theorem a2b.calls (a0 : Int) (a1 : Int) (r : Bool) (w : World) (h : a2b.f a0 a1 = some r) :
  Calls Tryd.prog 108 #[.int .u32 a0, .int .u8 a1] w fun e w' => e = .returned (.bool r) ∧ G6 w w' := by
 have H := h
 clear h
 unfold a2b.f at H
 by_cases c3 : a1 = 125
 ·rw [if_pos c3] at H; obtain ⟨a3w, b1t⟩ := bt_ c3; clear c3; obtain rfl := oj_ H
  go_enter Tryd.func108, Tryd.ntmps108
  go_wp2
  go_ret
  exact ⟨by (rfl), by exact G6.refl _⟩
 ·rw [if_neg c3] at H; have a3w := bq_ c3; have b1t := bn_ c3
  by_cases c4 : a1 = 126
  ·rw [if_pos c4] at H; obtain ⟨a3x, a9S⟩ := bt_ c4; clear c4; obtain rfl := oj_ H
   go_enter Tryd.func108, Tryd.ntmps108
   go_wp2
   go_ret
   exact ⟨by (rfl), by exact G6.refl _⟩
  ·rw [if_neg c4] at H; have a3x := bq_ c4; have a9S := bn_ c4; obtain ⟨t210, A5, H⟩ := bd_ H
   (try dsimp only at H); obtain rfl := oj_ H
   go_enter Tryd.func108, Tryd.ntmps108
   go_wp2_with (first | (go_at_call 111; (with_reducible refine (a3v.calls a0 a1 t210 _ A5.out).mono ?_); rintro e w' ⟨rfl, ⟨nd, rfl⟩⟩))
   go_ret
   exact ⟨by (rfl), by repeat (first | exact G6.refl _ | apply G6.step)⟩
def D9.piece (m c : Int) : List Int := if (a2b.f m c).getD false = true then [125, Go.bits .xor .u8 c 32] else [c]
def D9.pre (m : Int) (l : List Int) (j : Nat) : List Int := ((l.take j).map (D9.piece m)).flatten
def D9.f (l0 : List Int) (a1 : Int) : Option (List Int) := if (l0.all fun c => (a2b.f a1 c).isSome) = true ∧ (l0.map (D9.piece a1)).flatten.length < 140737488355328 then some (l0.map (D9.piece a1)).flatten else none
theorem D9.d3T (m : Int) (l : List Int) (j : Nat) (h : j < l.length) : D9.pre m l (j + 1) = D9.pre m l j ++ D9.piece m (rd l (j : Int)) := by
 unfold D9.pre rd
 rw [List.take_succ_eq_append_getElem h, List.map_append, List.flatten_append]
 simp [h]
theorem D9.e4n (m : Int) (l : List Int) (j : Nat) : (D9.pre m l j).length ≤ (l.map (D9.piece m)).flatten.length := by
 unfold D9.pre
 conv => rhs; rw [← List.take_append_drop j l, List.map_append, List.flatten_append, List.length_append]
 omega
theorem D9.d8l (m : Int) (l : List Int) (j : Nat) (h : l.length ≤ j) : D9.pre m l j = (l.map (D9.piece m)).flatten := by
 unfold D9.pre
 rw [List.take_of_length_le h]
structure D9.Inv (w0 W : World) (B : Nat) (acc : List Int) : Prop where mk :: (out : ∃ v : Value, W.heap[B]? = some (.cells #[v] 22 (0, 0)) ∧ Kd.R (Kd.int .u8) 5 W w0.heap.size (fun _ => True) v acc ∧ Below w0.heap.size w0 W ∧ w0.heap.size ≤ B)
theorem D9.Inv.drewN {w0 W : World} {B : Nat} {acc : List Int} (h : D9.Inv w0 W B acc) (n : Nat) : D9.Inv w0 (W.drewN n) B acc := by
 obtain ⟨v, h1, h2, h3, h4⟩ := h.out
 exact ⟨⟨v, h1, Kd.a1Q h2 n, y5 h3 n, h4⟩⟩
theorem D9.put (w0 W : World) (B : Nat) (acc : List Int) (c : Int) (hI : D9.Inv w0 W B acc) (hl : acc.length + 1 < 140737488355328) :
  Calls Tryd.prog 103 #[.int .u8 c, .pointer (some ⟨B, 0, none⟩)] W fun e w' => e = .returned (.tuple #[]) ∧ D9.Inv w0 w' B (acc ++ [c]) := by
 obtain ⟨v, hblk, hR, hB, hBg⟩ := hI.out
 have hcell : W.cell? ⟨B, 0, none⟩ = some v := D8 hblk 0
 have HBK := a_ hblk
 have HO := a_ hR
 have HB := a_ hB
 have HG := a_ hBg
 have HL := a_ hl
 clear hI hblk hR hB hBg hl
 go_enter Tryd.func103, Tryd.ntmps103
 go_wp2_with (((with_reducible refine D6 (b := .append) (xs := #[.tmp 3, .tmp 5]) rfl ?_); at_builtin; refine Kd.a1F (Kd.int .u8) (w0 := w0) w0.heap.size rfl (.tmp 3) (.tmp 5) 22 5 (.int .u8 0) 1 rfl Tryd.underlying22 info5 rfl (by decide) (by omega) v acc c [.int .u8 c] (fun _ => True) (fun _ => False) rfl rfl ?aP (fun _ hk => hk.elim) ?aF ?aO ?aB ?aS ?aL ?_; (case aP => exact rfl); (case aB => exact HB.out); (case aF => exact (fun _ _ => trivial)); (case aO => exact HO.out); (case aS => exact HB.out.size); (case aL => have := HL.out; omega); intro v1 w1 ho hb hg hat; obtain ⟨Ao1, co1, eo1⟩ := Kd.H6 ho; subst eo1; have hne := Kd.a3L HO.out HBK.out (by decide); have hblk1 := L9 HBK.out hg hne; have hcell1 : w1.cell? ⟨B, 0, none⟩ = some v := D8 hblk1 0; have g8O : w1.frozen? ⟨B, 0, none⟩ = false := l7 hblk1 0; have HO1 := a_ ho; have HB1 := a_ hb; have e9x := a_ hblk1; clear ho hb hg hat hne hblk1))
 go_end0
 refine ⟨rfl, ⟨⟨_, a3F e9x.out 0 _, ?_, o8 HB1.out HG.out, HG.out⟩⟩⟩
 have h := Kd.b7J HO1.out e9x.out (by decide) 0 (.slice Ao1 (acc ++ [c]).length co1)
 simp only [List.length_append, List.length_singleton] at h ⊢
 exact h
theorem D9.each (w0 W : World) (B : Nat) (A0 : Option Addr) (c0 : Nat) (l0 : List Int) (a1 : Int) (hr0 : Kd.C (Kd.int .u8) w0 A0 l0.length l0) (hc0 : l0.length ≤ c0) (hs : (l0.all fun c => (a2b.f a1 c).isSome) = true) (hl : (l0.map (D9.piece a1)).flatten.length < 140737488355328) (hI : D9.Inv w0 W B []) :
  Calls Tryd.prog 102 #[.slice A0 l0.length c0, .int .u32 a1, .func (.func 103) #[] #[.pointer (some ⟨B, 0, none⟩)]] W fun e w' => e = .returned (.tuple #[]) ∧ D9.Inv w0 w' B (l0.map (D9.piece a1)).flatten := by
 have HR0 := a_ hr0
 have HN := a_ hr0.2.1
 have HI := a_ hI
 have HL := a_ hl
 have HS := a_ hs
 clear hr0 hc0 hI hl hs
 go_enter Tryd.func102, Tryd.ntmps102
 go_wp2
 go_loopg [10] l0.length (fun kq v10 w' => ∃ j : Nat, Aside0 (kq + j = l0.length) ∧ v10 = .int .i64 (j : Int) ∧ Aside0 (D9.Inv w0 w' B (D9.pre a1 l0 j)))
 case atStart => exact ⟨0, ⟨rfl⟩, rfl, HI⟩
 case round =>
  obtain ⟨j, HJ, rfl, HI⟩ := hrel; have hj := HJ.out; have hn := HN.out; have hjl : j ≤ l0.length := by omega
  by_cases hlt : j < l0.length
  ·obtain ⟨k1, rfl⟩ : ∃ k1, gk = k1 + 1 := ⟨gk - 1, by omega⟩; have hB := HI.out.out.choose_spec.2.2.1; have p1 : 0 ≤ (j : Int) := by omega
   have q1 : (j : Int) < (l0.length : Int) := by omega
   obtain ⟨ad, e1, hx⟩ := Kd.a0x HR0.out (j : Int) p1 q1
   cases e1
   simp only [Int.toNat_natCast] at hx
   replace hx := (hB.cell (World.block_lt_of_cell? w0 _ hx)).trans hx; obtain ⟨t, ht⟩ : ∃ t, a2b.f a1 (rd l0 (j : Int)) = some t := by
    have h1 := List.all_eq_true.1 HS.out (rd l0 (j : Int)) (by unfold rd; rw [Int.toNat_natCast, List.getD_eq_getElem?_getD, List.getElem?_eq_getElem hlt]; exact List.getElem_mem hlt); exact Option.isSome_iff_exists.1 h1
   have HT := a_ ht; have HP := a_ (D9.d3T a1 l0 j hlt); have LM := a_ (D9.e4n a1 l0 (j + 1)); have HPC : Aside0 (D9.piece a1 (rd l0 (j : Int)) = if t = true then [125, Go.bits .xor .u8 (rd l0 (j : Int)) 32] else [rd l0 (j : Int)]) := ⟨by unfold D9.piece; rw [HT.out]; rfl⟩; clear hB ht hj; have LB : Aside0 ((D9.pre a1 l0 j ++ D9.piece a1 (rd l0 (j : Int))).length < 140737488355328) := ⟨by rw [← HP.out]; exact Nat.lt_of_le_of_lt LM.out HL.out⟩
   cases t with
   | true =>
    have c9G : Aside0 (D9.piece a1 (rd l0 (j : Int)) = [125, Go.bits .xor .u8 (rd l0 (j : Int)) 32]) := ⟨HPC.out⟩
    go_wp2_with fail
    refine (a2b.calls a1 (rd l0 (j : Int)) true _ HT.out).mono ?_; rintro e w1 ⟨rfl, ⟨nd, rfl⟩⟩
    go_wp2_with fail
    refine (D9.put w0 _ B (D9.pre a1 l0 j) 125 (HI.out.drewN nd) ?_).mono ?_
    ·have := LB.out; rw [c9G.out, List.length_append] at this
     simp only [List.length_cons, List.length_nil] at this
     omega
    rintro e w2 ⟨rfl, hI2⟩; have HI2 := a_ hI2; clear hI2
    go_wp2_with fail
    refine (D9.put w0 _ B (D9.pre a1 l0 j ++ [125]) _ HI2.out ?_).mono ?_
    ·have := LB.out; rw [c9G.out, List.length_append] at this
     simp only [List.length_cons, List.length_nil] at this
     simp only [List.length_append, List.length_cons, List.length_nil]
     omega
    rintro e w3 ⟨rfl, hI3⟩; have HI3 := a_ hI3; clear hI3
    go_wp2
    go_roundg k1
    case measure => omega
    case rel => exact ⟨j + 1, ⟨by have := HJ.out; omega⟩, by go_num, ⟨by rw [HP.out, c9G.out]; have := HI3.out; rw [List.append_assoc] at this; exact this⟩⟩
   | false =>
    have c9G : Aside0 (D9.piece a1 (rd l0 (j : Int)) = [rd l0 (j : Int)]) := ⟨HPC.out⟩
    go_wp2_with fail
    refine (a2b.calls a1 (rd l0 (j : Int)) false _ HT.out).mono ?_; rintro e w1 ⟨rfl, ⟨nd, rfl⟩⟩
    go_wp2_with fail
    refine (D9.put w0 _ B (D9.pre a1 l0 j) _ (HI.out.drewN nd) ?_).mono ?_
    ·have := LB.out; rw [c9G.out, List.length_append] at this
     simp only [List.length_cons, List.length_nil] at this
     omega
    rintro e w2 ⟨rfl, hI2⟩; have HI2 := a_ hI2; clear hI2
    go_wp2
    go_roundg k1
    case measure => omega
    case rel => exact ⟨j + 1, ⟨by have := HJ.out; omega⟩, by go_num, ⟨by rw [HP.out, c9G.out]; exact HI2.out⟩⟩
  ·go_wp2
   go_end0
   exact ⟨rfl, by rw [← D9.d8l a1 l0 j (by omega)]; exact HI.out⟩
theorem D9.calls (A0 : Option Addr) (c0 : Nat) (l0 : List Int) (a1 : Int) (r : List Int) (w : World) (hr0 : Kd.C (Kd.int .u8) w A0 l0.length l0) (hc0 : l0.length ≤ c0) (h : D9.f l0 a1 = some r) :
  Calls Tryd.prog 87 #[.slice A0 l0.length c0, .int .u32 a1] w fun e w' => ∃ v0_ : Value, e = .returned (v0_) ∧ Kd.R (Kd.int .u8) 5 w' w.heap.size (fun _ => True) v0_ r ∧ Below w.heap.size w w' := by
 obtain ⟨⟨hs, hl⟩, rfl⟩ : ((l0.all fun c => (a2b.f a1 c).isSome) = true ∧ (l0.map (D9.piece a1)).flatten.length < 140737488355328) ∧ (l0.map (D9.piece a1)).flatten = r := by
  unfold D9.f at h
  split at h
  ·exact ⟨by assumption, oj_ h⟩
  ·cases h
 have HC := a_ hr0
 have HC0 := a_ hc0
 have HS := a_ hs
 have HL := a_ hl
 clear h hs hl hr0 hc0
 go_enter Tryd.func87, Tryd.ntmps87
 go_wp2_with fail
 refine (D9.each w _ w.heap.size A0 c0 l0 a1 HC.out HC0.out HS.out HL.out ⟨⟨.slice none 0 0, heap_alloc_new w _, Kd.Y4 _ _ _ _ _, Z7 (Below.refl _ _) _, Nat.le_refl _⟩⟩).mono ?_
 rintro e w1 ⟨rfl, hI⟩
 obtain ⟨v, hblk, hR, hB, _⟩ := hI.out
 have hcell : w1.cell? ⟨w.heap.size, 0, none⟩ = some v := D8 hblk 0
 have HR := a_ hR
 have HB := a_ hB
 clear hI hblk hR hB
 go_wp2
 go_ret
 exact ⟨_, rfl, HR.out, HB.out⟩
def a2Y.f (a0 : Bool) : Option (Int) := if a0 = true then (some 4294967295) else (some 65535)
theorem a2Y.calls (a0 : Bool) (r : Int) (w : World) (h : a2Y.f a0 = some r) :
  Calls Tryd.prog 110 #[.bool a0] w fun e w' => e = .returned (.int .u32 r) ∧ G6 w w' := by
 have H := h
 clear h
 unfold a2Y.f at H
 by_cases c2 : a0 = true
 ·subst c2; rw [if_pos rfl] at H; obtain rfl := oj_ H
  go_enter Tryd.func110, Tryd.ntmps110
  go_wp2
  go_ret
  exact ⟨by (rfl), by exact G6.refl _⟩
 ·cases nt_ c2
  rw [if_neg a2O] at H; obtain rfl := oj_ H
  go_enter Tryd.func110, Tryd.ntmps110
  go_wp2
  go_ret
  exact ⟨by (rfl), by exact G6.refl _⟩
def G5.bit (p x : Int) : Int := if Go.bits .and .u32 x 1 = 1 then Go.bits .xor .u32 (x / 2) p else x / 2
def G5.a8x (p : Int) : Nat → Int → Int
 | 0, x => x
 | m + 1, x => G5.bit p (G5.a8x p m x)
def G5.by (b : Bool) : Int := if b = true then 3988292384 else 33800
structure G5.Inv (w0 W : World) (B : Nat) (p : Int) (j : Nat) : Prop where mk :: (out : ∃ cs : Array Value, W.heap[B]? = some (.cells cs 167 (0, 0)) ∧ cs.size = 256 ∧ (∀ i : Nat, i < j → cs[i]? = some (.int .u32 (G5.a8x p 8 (i : Int)))) ∧ Below w0.heap.size w0 W ∧ w0.heap.size ≤ B)
theorem G5.zero (w : World) : (zeroValue 167).run Tryd.prog w = .ok (.agg (Array.replicate 256 (.int .u32 0))) w := by kernel_rfl
theorem G5.start (w : World) (p : Int) : G5.Inv w (w.alloc (.cells (Array.replicate 256 (.int .u32 0)) 167)) w.heap.size p 0 :=
 ⟨⟨_, heap_alloc_new w _, Array.size_replicate, (fun i hi => absurd hi (Nat.not_lt_zero i)), Z7 (Below.refl _ _) _, Nat.le_refl _⟩⟩
theorem G5.next {w0 W : World} {B : Nat} {p : Int} {j : Nat} (hj : j < 256) (h : G5.Inv w0 W B p j) : G5.Inv w0 (W.setCell ⟨B, j, none⟩ (.int .u32 (G5.a8x p 8 (j : Int)))) B p (j + 1) := by
 obtain ⟨cs, h1, h2, h3, h4, h5⟩ := h.out
 refine ⟨⟨_, a3F h1 j _, by simpa using h2, ?_, o8 h4 h5, h5⟩⟩
 intro i hi
 rw [Array.getElem?_setIfInBounds]
 split
 ·rename_i e
  subst e
  split
  ·rfl
  ·rename_i hn
   exact absurd (show j < cs.size by omega) hn
 ·rename_i e
  exact h3 i (by omega)
theorem G5.cell {w0 W : World} {B : Nat} {p : Int} {j : Nat} (hj : j < 256) (h : G5.Inv w0 W B p j) : ∃ c, W.cell? ⟨B, j, none⟩ = some c ∧ W.frozen? ⟨B, j, none⟩ = false := by
 obtain ⟨cs, h1, h2, h3, h4, h5⟩ := h.out
 exact ⟨_, (D8 h1 j).trans (Array.getElem?_eq_getElem (by omega)), l7 h1 j⟩
theorem G5.c1T (p : Int) (m : Nat) (x : Int) (h : Go.bits .and .u32 (G5.a8x p m x) 1 = 1) : G5.a8x p (m + 1) x = Go.bits .xor .u32 (G5.a8x p m x / 2) p := by
 rw [G5.a8x, G5.bit, if_pos h]
theorem G5.c62 (p : Int) (m : Nat) (x : Int) (h : ¬ Go.bits .and .u32 (G5.a8x p m x) 1 = 1) : G5.a8x p (m + 1) x = G5.a8x p m x / 2 := by
 rw [G5.a8x, G5.bit, if_neg h]
theorem G5.calls (b : Bool) (w : World) :
  Calls Tryd.prog 113 #[.bool b] w fun e w' => ∃ B : Nat, e = .returned (.pointer (some ⟨B, 0, none⟩)) ∧ G5.Inv w w' B (G5.by b) 256 := by
 cases b with
 | true =>
  have hby : G5.by true = 3988292384 := rfl
  rw [hby]
  go_enter Tryd.func113, Tryd.ntmps113
  go_wp2
  go_loopg [9] 256 (fun kq v9 w' => ∃ j : Nat, Aside0 (kq + j = 256) ∧ v9 = .int .i64 (j : Int) ∧ Aside0 (G5.Inv w w' w.heap.size 3988292384 j))
  case atStart => exact ⟨0, ⟨rfl⟩, rfl, ⟨G5.start w _⟩⟩
  case round =>
   obtain ⟨j, HJ, rfl, HI⟩ := hrel; have hj := HJ.out
   by_cases hlt : j < 256
   ·obtain ⟨k1, rfl⟩ : ∃ k1, gk = k1 + 1 := ⟨gk - 1, by omega⟩; have hjc : (j : Int) < 256 := by omega
    go_wp2
    go_loopg [14, 6] 8 (fun kq v14 v6 w'' => ∃ m : Nat, Aside0 (kq + m = 8) ∧ v14 = .int .i64 (m : Int) ∧ v6 = .int .u32 (G5.a8x 3988292384 m (j : Int)) ∧ Aside0 (G5.Inv w w'' w.heap.size 3988292384 j))
    case atStart => exact ⟨0, ⟨rfl⟩, rfl, rfl, HI⟩
    case round =>
     obtain ⟨m, HM, rfl, rfl, HI⟩ := hrel; have hm := HM.out
     by_cases hmt : m < 8
     ·obtain ⟨k2, rfl⟩ : ∃ k2, gk = k2 + 1 := ⟨gk - 1, by omega⟩; have hmc : (m : Int) < 8 := by omega
      by_cases hb : Go.bits .and .u32 (G5.a8x 3988292384 m (j : Int)) 1 = 1
      ·go_wp2
       go_roundg k2
       case measure => omega
       case rel => exact ⟨m + 1, ⟨by omega⟩, by go_num, (by rw [G5.c1T _ _ _ hb]), HI⟩
      ·go_wp2
       go_roundg k2
       case measure => omega
       case rel => exact ⟨m + 1, ⟨by omega⟩, by go_num, (by rw [G5.c62 _ _ _ hb]), HI⟩
     ·have hmc : ¬ (m : Int) < 8 := by omega
      obtain rfl : m = 8 := by omega
      obtain ⟨c, hcell, hfr⟩ := G5.cell hlt HI.out; have HN := a_ (G5.next hlt HI.out)
      go_wp2
      go_roundg k1
      case measure => omega
      case rel => exact ⟨j + 1, ⟨by omega⟩, by go_num, HN⟩
   ·have hjc : ¬ (j : Int) < 256 := by omega
    go_wp2
    go_ret
    obtain rfl : j = 256 := by omega
    exact ⟨_, rfl, HI.out⟩
 | false =>
  have hby : G5.by false = 33800 := rfl
  rw [hby]
  go_enter Tryd.func113, Tryd.ntmps113
  go_wp2
  go_loopg [9] 256 (fun kq v9 w' => ∃ j : Nat, Aside0 (kq + j = 256) ∧ v9 = .int .i64 (j : Int) ∧ Aside0 (G5.Inv w w' w.heap.size 33800 j))
  case atStart => exact ⟨0, ⟨rfl⟩, rfl, ⟨G5.start w _⟩⟩
  case round =>
   obtain ⟨j, HJ, rfl, HI⟩ := hrel; have hj := HJ.out
   by_cases hlt : j < 256
   ·obtain ⟨k1, rfl⟩ : ∃ k1, gk = k1 + 1 := ⟨gk - 1, by omega⟩; have hjc : (j : Int) < 256 := by omega
    go_wp2
    go_loopg [14, 6] 8 (fun kq v14 v6 w'' => ∃ m : Nat, Aside0 (kq + m = 8) ∧ v14 = .int .i64 (m : Int) ∧ v6 = .int .u32 (G5.a8x 33800 m (j : Int)) ∧ Aside0 (G5.Inv w w'' w.heap.size 33800 j))
    case atStart => exact ⟨0, ⟨rfl⟩, rfl, rfl, HI⟩
    case round =>
     obtain ⟨m, HM, rfl, rfl, HI⟩ := hrel; have hm := HM.out
     by_cases hmt : m < 8
     ·obtain ⟨k2, rfl⟩ : ∃ k2, gk = k2 + 1 := ⟨gk - 1, by omega⟩; have hmc : (m : Int) < 8 := by omega
      by_cases hb : Go.bits .and .u32 (G5.a8x 33800 m (j : Int)) 1 = 1
      ·go_wp2
       go_roundg k2
       case measure => omega
       case rel => exact ⟨m + 1, ⟨by omega⟩, by go_num, (by rw [G5.c1T _ _ _ hb]), HI⟩
      ·go_wp2
       go_roundg k2
       case measure => omega
       case rel => exact ⟨m + 1, ⟨by omega⟩, by go_num, (by rw [G5.c62 _ _ _ hb]), HI⟩
     ·have hmc : ¬ (m : Int) < 8 := by omega
      obtain rfl : m = 8 := by omega
      obtain ⟨c, hcell, hfr⟩ := G5.cell hlt HI.out; have HN := a_ (G5.next hlt HI.out)
      go_wp2
      go_roundg k1
      case measure => omega
      case rel => exact ⟨j + 1, ⟨by omega⟩, by go_num, HN⟩
   ·have hjc : ¬ (j : Int) < 256 := by omega
    go_wp2
    go_ret
    obtain rfl : j = 256 := by omega
    exact ⟨_, rfl, HI.out⟩
def a2j.f (a0 : Bool) : Option (Int) := if a0 = true then (some 4) else (some 2)
theorem a2j.calls (a0 : Bool) (r : Int) (w : World) (h : a2j.f a0 = some r) :
  Calls Tryd.prog 105 #[.bool a0] w fun e w' => e = .returned (.int .i64 r) ∧ G6 w w' := by
 have H := h
 clear h
 unfold a2j.f at H
 by_cases c2 : a0 = true
 ·subst c2; rw [if_pos rfl] at H; obtain rfl := oj_ H
  go_enter Tryd.func105, Tryd.ntmps105
  go_wp2
  go_ret
  exact ⟨by (rfl), by exact G6.refl _⟩
 ·cases nt_ c2
  rw [if_neg a2O] at H; obtain rfl := oj_ H
  go_enter Tryd.func105, Tryd.ntmps105
  go_wp2
  go_ret
  exact ⟨by (rfl), by exact G6.refl _⟩
theorem e67 (d : Nat) (w : World) (x0 y0 : Int) (x1 y1 : Int) :
    (Op.equalIn (d + 2) 30 (.agg #[.int .i64 x0, .int .i64 x1]) (.agg #[.int .i64 y0, .int .i64 y1])).run Tryd.prog w = .ok (x0 == y0 && (x1 == y1)) w := by
  refine d0H Tryd.underlying30 (by kernel_rfl) ?_
  refine c0B (by rfl) (by go_simp; rfl) (by go_simp; rfl) (by go_simp) ?_
  exact c0A (by rfl) (by go_simp; rfl) (by go_simp; rfl) (by go_simp)
end Go.Proofs.YtgnonglkibhnhaaDoor.Print
